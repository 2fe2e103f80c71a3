-- Written by wip/mk.py of this repo: the kit's print program, with contracts of our own among its functions.
import Derived.Test.YtpffggpedogifaaPx0
namespace Go.Proofs.Ytpffggpedogifaa.P
open Go.RowKit Go.Proofs.YtpffggpedogifaaW.PrintWords Go.Proofs.YtpffggpedogifaaW.PrintLast Go.Proofs.YtpffggpedogifaaW.PrintMore
attribute [local go_sem] max2_int min2_int max_two min_two max_three min_three max_four min_four   -- for this text's walks alone
set_option linter.unusedVariables false
set_option linter.unusedSimpArgs false

/-! ### headgateref15_May: function 27 -/
mutual
def headgateref15_May.j0 : Nat → Bool → Int → Int → Int → Int → Int → Int → Int → Int → Int → Int → Option (Bool)
  | 0, _, _, _, _, _, _, _, _, _, _, _ => none
  | k + 1, x21, x363000, x363001, x363002, x363003, x363004, x363005, x363006, x363007, x363008, x363009 => if x21 = true then (some false) else (headgateref15_May.l0 k 0 0 x363000 x363001 x363002 x363003 x363004 x363005 x363006 x363007 x363008 x363009)
def headgateref15_May.l0 : Nat → Int → Int → Int → Int → Int → Int → Int → Int → Int → Int → Int → Int → Option (Bool)
  | 0, _, _, _, _, _, _, _, _, _, _, _, _ => none
  | k + 1, x3, x4, x363000, x363001, x363002, x363003, x363004, x363005, x363006, x363007, x363008, x363009 => if x4 < 4 then (if x4 = 0 then (if x363004 < 0 then (some false) else (if x363004 > 1099511627776 then (some false) else (headgateref15_May.l0 k (wrap64 (x3 + x363004)) (wrap64 (x4 + 1)) x363000 x363001 x363002 x363003 x363004 x363005 x363006 x363007 x363008 x363009))) else (if x4 = 1 then (if x363005 < 0 then (some false) else (if x363005 > 1099511627776 then (some false) else (headgateref15_May.l0 k (wrap64 (x3 + x363005)) (wrap64 (x4 + 1)) x363000 x363001 x363002 x363003 x363004 x363005 x363006 x363007 x363008 x363009))) else (if x4 = 2 then (if x363006 < 0 then (some false) else (if x363006 > 1099511627776 then (some false) else (headgateref15_May.l0 k (wrap64 (x3 + x363006)) (wrap64 (x4 + 1)) x363000 x363001 x363002 x363003 x363004 x363005 x363006 x363007 x363008 x363009))) else (if x4 = 3 then (if x363007 < 0 then (some false) else (if x363007 > 1099511627776 then (some false) else (headgateref15_May.l0 k (wrap64 (x3 + x363007)) (wrap64 (x4 + 1)) x363000 x363001 x363002 x363003 x363004 x363005 x363006 x363007 x363008 x363009))) else (none))))) else (if x3 = x363000 then (if x363008 < (-1099511627776) then (headgateref15_May.j2 k true x363000 x363001 x363002 x363003 x363004 x363005 x363006 x363007 x363008 x363009) else (if x363008 > 1099511627776 then (headgateref15_May.j2 k true x363000 x363001 x363002 x363003 x363004 x363005 x363006 x363007 x363008 x363009) else (if x363009 < (-1099511627776) then (headgateref15_May.j2 k true x363000 x363001 x363002 x363003 x363004 x363005 x363006 x363007 x363008 x363009) else (headgateref15_May.j2 k (decide (x363009 > 1099511627776)) x363000 x363001 x363002 x363003 x363004 x363005 x363006 x363007 x363008 x363009)))) else (headgateref15_May.j2 k true x363000 x363001 x363002 x363003 x363004 x363005 x363006 x363007 x363008 x363009))
def headgateref15_May.j2 : Nat → Bool → Int → Int → Int → Int → Int → Int → Int → Int → Int → Int → Option (Bool)
  | 0, _, _, _, _, _, _, _, _, _, _, _ => none
  | k + 1, x67, x363000, x363001, x363002, x363003, x363004, x363005, x363006, x363007, x363008, x363009 => if x67 = true then (some false) else (if x363008 < 0 then (if x363009 < 0 then (some (decide ((wrap64 ((wrap64 (-x363008)) + (wrap64 (-x363009)))) ≤ x363000))) else (some (decide ((wrap64 ((wrap64 (-x363008)) + x363009)) ≤ x363000)))) else (if x363009 < 0 then (some (decide ((wrap64 (x363008 + (wrap64 (-x363009)))) ≤ x363000))) else (some (decide ((wrap64 (x363008 + x363009)) ≤ x363000)))))
end
def headgateref15_May.f (k : Nat) (a0_0 : Int) (a0_1 : Int) (a0_2 : Int) (a0_3 : Int) (a0_4 : Int) (a0_5 : Int) (a0_6 : Int) (a0_7 : Int) (a0_8 : Int) (a0_9 : Int) : Option (Bool) := if a0_0 < 1 then (headgateref15_May.j0 k true a0_0 a0_1 a0_2 a0_3 a0_4 a0_5 a0_6 a0_7 a0_8 a0_9) else (if a0_0 > 1099511627776 then (headgateref15_May.j0 k true a0_0 a0_1 a0_2 a0_3 a0_4 a0_5 a0_6 a0_7 a0_8 a0_9) else (headgateref15_May.j0 k (decide (a0_2 > a0_3)) a0_0 a0_1 a0_2 a0_3 a0_4 a0_5 a0_6 a0_7 a0_8 a0_9))
theorem headgateref15_May.mono_l : ∀ k, (∀ y0 y1 y2 y3 y4 y5 y6 y7 y8 y9 y10, LeO (headgateref15_May.j0 k y0 y1 y2 y3 y4 y5 y6 y7 y8 y9 y10) (headgateref15_May.j0 (k + 1) y0 y1 y2 y3 y4 y5 y6 y7 y8 y9 y10)) ∧ (∀ y0 y1 y2 y3 y4 y5 y6 y7 y8 y9 y10 y11, LeO (headgateref15_May.l0 k y0 y1 y2 y3 y4 y5 y6 y7 y8 y9 y10 y11) (headgateref15_May.l0 (k + 1) y0 y1 y2 y3 y4 y5 y6 y7 y8 y9 y10 y11)) ∧ (∀ y0 y1 y2 y3 y4 y5 y6 y7 y8 y9 y10, LeO (headgateref15_May.j2 k y0 y1 y2 y3 y4 y5 y6 y7 y8 y9 y10) (headgateref15_May.j2 (k + 1) y0 y1 y2 y3 y4 y5 y6 y7 y8 y9 y10))
  | 0 => ⟨fun _ _ _ _ _ _ _ _ _ _ _ r h => by simp [headgateref15_May.j0] at h, fun _ _ _ _ _ _ _ _ _ _ _ _ r h => by simp [headgateref15_May.l0] at h, fun _ _ _ _ _ _ _ _ _ _ _ r h => by simp [headgateref15_May.j2] at h⟩
  | k + 1 => by
    obtain ⟨ih0, ih1, ih2⟩ := headgateref15_May.mono_l k
    refine ⟨?_, ?_, ?_⟩
    · intro y0 y1 y2 y3 y4 y5 y6 y7 y8 y9 y10
      unfold headgateref15_May.j0
      repeat' first
      | (with_reducible exact ih0 _ _ _ _ _ _ _ _ _ _ _)
      | (with_reducible exact ih1 _ _ _ _ _ _ _ _ _ _ _ _)
      | (with_reducible exact ih2 _ _ _ _ _ _ _ _ _ _ _)
      | (with_reducible exact LeO.refl _)
      | (with_reducible exact LeO.none _)
      | (with_reducible refine LeO.ite ?_ ?_)
      | (with_reducible refine LeO.bind ?_ (fun _ => ?_))
      | exact ih0 _ _ _ _ _ _ _ _ _ _ _
      | exact ih1 _ _ _ _ _ _ _ _ _ _ _ _
      | exact ih2 _ _ _ _ _ _ _ _ _ _ _
      | exact LeO.none _
      | refine LeO.ite ?_ ?_
      | refine LeO.bind ?_ (fun _ => ?_)
    · intro y0 y1 y2 y3 y4 y5 y6 y7 y8 y9 y10 y11
      unfold headgateref15_May.l0
      repeat' first
      | (with_reducible exact ih0 _ _ _ _ _ _ _ _ _ _ _)
      | (with_reducible exact ih1 _ _ _ _ _ _ _ _ _ _ _ _)
      | (with_reducible exact ih2 _ _ _ _ _ _ _ _ _ _ _)
      | (with_reducible exact LeO.refl _)
      | (with_reducible exact LeO.none _)
      | (with_reducible refine LeO.ite ?_ ?_)
      | (with_reducible refine LeO.bind ?_ (fun _ => ?_))
      | exact ih0 _ _ _ _ _ _ _ _ _ _ _
      | exact ih1 _ _ _ _ _ _ _ _ _ _ _ _
      | exact ih2 _ _ _ _ _ _ _ _ _ _ _
      | exact LeO.none _
      | refine LeO.ite ?_ ?_
      | refine LeO.bind ?_ (fun _ => ?_)
    · intro y0 y1 y2 y3 y4 y5 y6 y7 y8 y9 y10
      unfold headgateref15_May.j2
      repeat' first
      | (with_reducible exact ih0 _ _ _ _ _ _ _ _ _ _ _)
      | (with_reducible exact ih1 _ _ _ _ _ _ _ _ _ _ _ _)
      | (with_reducible exact ih2 _ _ _ _ _ _ _ _ _ _ _)
      | (with_reducible exact LeO.refl _)
      | (with_reducible exact LeO.none _)
      | (with_reducible refine LeO.ite ?_ ?_)
      | (with_reducible refine LeO.bind ?_ (fun _ => ?_))
      | exact ih0 _ _ _ _ _ _ _ _ _ _ _
      | exact ih1 _ _ _ _ _ _ _ _ _ _ _ _
      | exact ih2 _ _ _ _ _ _ _ _ _ _ _
      | exact LeO.none _
      | refine LeO.ite ?_ ?_
      | refine LeO.bind ?_ (fun _ => ?_)
theorem headgateref15_May.mono : ∀ a0 a1 a2 a3 a4 a5 a6 a7 a8 a9 k, LeO (headgateref15_May.f k a0 a1 a2 a3 a4 a5 a6 a7 a8 a9) (headgateref15_May.f (k + 1) a0 a1 a2 a3 a4 a5 a6 a7 a8 a9) := by
  intro a0 a1 a2 a3 a4 a5 a6 a7 a8 a9 k
  obtain ⟨ih0, ih1, ih2⟩ := headgateref15_May.mono_l k
  unfold headgateref15_May.f
  repeat' first
      | (with_reducible exact ih0 _ _ _ _ _ _ _ _ _ _ _)
      | (with_reducible exact ih1 _ _ _ _ _ _ _ _ _ _ _ _)
      | (with_reducible exact ih2 _ _ _ _ _ _ _ _ _ _ _)
      | (with_reducible exact LeO.refl _)
      | (with_reducible exact LeO.none _)
      | (with_reducible refine LeO.ite ?_ ?_)
      | (with_reducible refine LeO.bind ?_ (fun _ => ?_))
      | exact ih0 _ _ _ _ _ _ _ _ _ _ _
      | exact ih1 _ _ _ _ _ _ _ _ _ _ _ _
      | exact ih2 _ _ _ _ _ _ _ _ _ _ _
      | exact LeO.none _
      | refine LeO.ite ?_ ?_
      | refine LeO.bind ?_ (fun _ => ?_)
set_option maxHeartbeats 8000000 in
set_option maxRecDepth 100000 in
theorem headgateref15_May.calls (k : Nat) (a0_0 : Int) (a0_1 : Int) (a0_2 : Int) (a0_3 : Int) (a0_4 : Int) (a0_5 : Int) (a0_6 : Int) (a0_7 : Int) (a0_8 : Int) (a0_9 : Int) (r : Bool) (w : World) (h : headgateref15_May.f k a0_0 a0_1 a0_2 a0_3 a0_4 a0_5 a0_6 a0_7 a0_8 a0_9 = some r) :
    Calls Try.prog 27 #[.agg #[.int .i64 a0_0, .int .i64 a0_1, .int .i64 a0_2, .int .i64 a0_3, .int .i64 a0_4, .int .i64 a0_5, .int .i64 a0_6, .int .i64 a0_7, .int .i64 a0_8, .int .i64 a0_9]] w fun e w' => e = .returned (.bool r) ∧ Below w.heap.size w w' := by
  have hu24 := Try.underlying24
  have HB := Aside0.mk (Below.refl w.heap.size w)
  have H : (if a0_0 < 1 then (headgateref15_May.j0 k true a0_0 a0_1 a0_2 a0_3 a0_4 a0_5 a0_6 a0_7 a0_8 a0_9) else (if a0_0 > 1099511627776 then (headgateref15_May.j0 k true a0_0 a0_1 a0_2 a0_3 a0_4 a0_5 a0_6 a0_7 a0_8 a0_9) else (headgateref15_May.j0 k (decide (a0_2 > a0_3)) a0_0 a0_1 a0_2 a0_3 a0_4 a0_5 a0_6 a0_7 a0_8 a0_9))) = some r := h
  clear h
  have HC2 := Aside0.mk H
  clear H
  go_enter Try.func27, Try.ntmps27
  go_upto_region 1 with (first | ((with_reducible refine gate_dst (N := 1) rfl ?_); refine box_event ?hg (N := 1) ?hd (cs := #[.int .i64 a0_0, .int .i64 a0_1, .int .i64 a0_2, .int .i64 a0_3, .int .i64 a0_4, .int .i64 a0_5, .int .i64 a0_6, .int .i64 a0_7, .int .i64 a0_8, .int .i64 a0_9]) (t := 24) ?hr ?_; (case hd => rfl); (case hg => rfl); (case hr => first | (go_simp; done) | (go_simp; rfl)); intro gb362 hg w3 hbox hb; have n0_ := Aside0.mk (below_step (by repeat (first | (with_reducible first | exact HB.out | apply below_alloc | apply pw_below_drewN | apply below_drew1) | exact HB.out)) hb); have n1_ := Aside0.mk (hbox); have n2_ := Aside0.mk ((by rw [hg]; exact (below_size (by repeat (first | (with_reducible first | exact HB.out | apply below_alloc | apply pw_below_drewN | apply below_drew1) | exact HB.out))) : w.heap.size ≤ gb362)); have n3_ := Aside0.mk ((by rw [hg]; exact (below_size (by repeat (first | (with_reducible first | exact HB.out | apply below_alloc | apply pw_below_drewN | apply below_drew1) | exact HB.out))) : w.heap.size ≤ gb362)); clear HB; have HB := n0_; have BK362 := n1_; have GW362 := n2_; have GE362 := n3_; clear n0_ n1_ n2_ n3_; clear hb hbox hg))
  repeat (go_quiet (first | ((with_reducible refine gate_dst (N := 1) rfl ?_); refine box_event ?hg (N := 1) ?hd (cs := #[.int .i64 a0_0, .int .i64 a0_1, .int .i64 a0_2, .int .i64 a0_3, .int .i64 a0_4, .int .i64 a0_5, .int .i64 a0_6, .int .i64 a0_7, .int .i64 a0_8, .int .i64 a0_9]) (t := 24) ?hr ?_; (case hd => rfl); (case hg => rfl); (case hr => first | (go_simp; done) | (go_simp; rfl)); intro gb362 hg w3 hbox hb; have n0_ := Aside0.mk (below_step (by repeat (first | (with_reducible first | exact HB.out | apply below_alloc | apply pw_below_drewN | apply below_drew1) | exact HB.out)) hb); have n1_ := Aside0.mk (hbox); have n2_ := Aside0.mk ((by rw [hg]; exact (below_size (by repeat (first | (with_reducible first | exact HB.out | apply below_alloc | apply pw_below_drewN | apply below_drew1) | exact HB.out))) : w.heap.size ≤ gb362)); have n3_ := Aside0.mk ((by rw [hg]; exact (below_size (by repeat (first | (with_reducible first | exact HB.out | apply below_alloc | apply pw_below_drewN | apply below_drew1) | exact HB.out))) : w.heap.size ≤ gb362)); clear HB; have HB := n0_; have BK362 := n1_; have GW362 := n2_; have GE362 := n3_; clear n0_ n1_ n2_ n3_; clear hb hbox hg)); go_upto_region 1 with (first | ((with_reducible refine gate_dst (N := 1) rfl ?_); refine box_event ?hg (N := 1) ?hd (cs := #[.int .i64 a0_0, .int .i64 a0_1, .int .i64 a0_2, .int .i64 a0_3, .int .i64 a0_4, .int .i64 a0_5, .int .i64 a0_6, .int .i64 a0_7, .int .i64 a0_8, .int .i64 a0_9]) (t := 24) ?hr ?_; (case hd => rfl); (case hg => rfl); (case hr => first | (go_simp; done) | (go_simp; rfl)); intro gb362 hg w3 hbox hb; have n0_ := Aside0.mk (below_step (by repeat (first | (with_reducible first | exact HB.out | apply below_alloc | apply pw_below_drewN | apply below_drew1) | exact HB.out)) hb); have n1_ := Aside0.mk (hbox); have n2_ := Aside0.mk ((by rw [hg]; exact (below_size (by repeat (first | (with_reducible first | exact HB.out | apply below_alloc | apply pw_below_drewN | apply below_drew1) | exact HB.out))) : w.heap.size ≤ gb362)); have n3_ := Aside0.mk ((by rw [hg]; exact (below_size (by repeat (first | (with_reducible first | exact HB.out | apply below_alloc | apply pw_below_drewN | apply below_drew1) | exact HB.out))) : w.heap.size ≤ gb362)); clear HB; have HB := n0_; have BK362 := n1_; have GW362 := n2_; have GE362 := n3_; clear n0_ n1_ n2_ n3_; clear hb hbox hg)))
  (try simp only [Act.put, List.setIfInBounds_toArray, List.set_cons_zero, List.set_cons_succ])
  go_cut [21] (fun v21 wc => ∃ (kq : Nat) (x21_1 : Bool), v21 = .bool x21_1 ∧ Aside0 (headgateref15_May.j0 kq x21_1 a0_0 a0_1 a0_2 a0_3 a0_4 a0_5 a0_6 a0_7 a0_8 a0_9 = some r) ∧ Aside0 (kq ≤ k) ∧ Aside0 (wc.heap[gb362]? = some (.cells #[.int .i64 a0_0, .int .i64 a0_1, .int .i64 a0_2, .int .i64 a0_3, .int .i64 a0_4, .int .i64 a0_5, .int .i64 a0_6, .int .i64 a0_7, .int .i64 a0_8, .int .i64 a0_9] 24 (0, 0))) ∧ Aside0 (Below w.heap.size w wc))
  case first =>
    have H := HC2.out
    clear HC2
    by_cases c4 : a0_0 < 1
    · rw [if_pos c4] at H
      have c4b0 : decide (a0_0 < 1) = true := decide_eq_true c4
      clear c4
      (first | rw [c4b0] | rw [c4b9] | (simp only [i64_w, i32_w]; rw [c4b0]) | skip)
      have H' := Aside0.mk H
      clear H
      have hcz5_0 : w3.cell? ⟨gb362, 0, none⟩ = some (.int .i64 a0_0) := (blk_cell BK362.out 0).trans rfl
      have hcz5_1 : w3.cell? ⟨gb362, 1, none⟩ = some (.int .i64 a0_1) := (blk_cell BK362.out 1).trans rfl
      have hcz5_2 : w3.cell? ⟨gb362, 2, none⟩ = some (.int .i64 a0_2) := (blk_cell BK362.out 2).trans rfl
      have hcz5_3 : w3.cell? ⟨gb362, 3, none⟩ = some (.int .i64 a0_3) := (blk_cell BK362.out 3).trans rfl
      have hcz5_4 : w3.cell? ⟨gb362, 4, none⟩ = some (.int .i64 a0_4) := (blk_cell BK362.out 4).trans rfl
      have hcz5_5 : w3.cell? ⟨gb362, 5, none⟩ = some (.int .i64 a0_5) := (blk_cell BK362.out 5).trans rfl
      have hcz5_6 : w3.cell? ⟨gb362, 6, none⟩ = some (.int .i64 a0_6) := (blk_cell BK362.out 6).trans rfl
      have hcz5_7 : w3.cell? ⟨gb362, 7, none⟩ = some (.int .i64 a0_7) := (blk_cell BK362.out 7).trans rfl
      have hcz5_8 : w3.cell? ⟨gb362, 8, none⟩ = some (.int .i64 a0_8) := (blk_cell BK362.out 8).trans rfl
      have hcz5_9 : w3.cell? ⟨gb362, 9, none⟩ = some (.int .i64 a0_9) := (blk_cell BK362.out 9).trans rfl
      have hfz5_0 := blk_frozen BK362.out 0
      have hfz5_1 := blk_frozen BK362.out 1
      have hfz5_2 := blk_frozen BK362.out 2
      have hfz5_3 := blk_frozen BK362.out 3
      have hfz5_4 := blk_frozen BK362.out 4
      have hfz5_5 := blk_frozen BK362.out 5
      have hfz5_6 := blk_frozen BK362.out 6
      have hfz5_7 := blk_frozen BK362.out 7
      have hfz5_8 := blk_frozen BK362.out 8
      have hfz5_9 := blk_frozen BK362.out 9
      go_wp2
      repeat (go_quiet (fail); try go_wp2)
      go_meet
      case rel => exact ⟨_, (true), (by first | rfl | (simp; done) | (simp [*]; done)), H', ⟨by first | omega | exact Nat.le_refl _⟩, ⟨by (with_reducible repeat (first | refine blk_drewN ?_ _ | refine blk_drew ?_ | refine blk_alloc ?_ _)); exact BK362.out⟩, ⟨by repeat (first | (with_reducible first | exact HB.out | apply below_alloc | apply pw_below_drewN | apply below_drew1 | refine below_set ?_ GE362.out) | exact HB.out)⟩⟩
    · rw [if_neg c4] at H
      have c4b0 : decide (a0_0 < 1) = false := decide_eq_false c4
      clear c4
      (first | rw [c4b0] | rw [c4b9] | (simp only [i64_w, i32_w]; rw [c4b0]) | skip)
      by_cases c6 : a0_0 > 1099511627776
      · rw [if_pos c6] at H
        have c6b0 : decide (1099511627776 < a0_0) = true := decide_eq_true c6
        clear c6
        have H' := Aside0.mk H
        clear H
        have hcz7_0 : w3.cell? ⟨gb362, 0, none⟩ = some (.int .i64 a0_0) := (blk_cell BK362.out 0).trans rfl
        have hcz7_1 : w3.cell? ⟨gb362, 1, none⟩ = some (.int .i64 a0_1) := (blk_cell BK362.out 1).trans rfl
        have hcz7_2 : w3.cell? ⟨gb362, 2, none⟩ = some (.int .i64 a0_2) := (blk_cell BK362.out 2).trans rfl
        have hcz7_3 : w3.cell? ⟨gb362, 3, none⟩ = some (.int .i64 a0_3) := (blk_cell BK362.out 3).trans rfl
        have hcz7_4 : w3.cell? ⟨gb362, 4, none⟩ = some (.int .i64 a0_4) := (blk_cell BK362.out 4).trans rfl
        have hcz7_5 : w3.cell? ⟨gb362, 5, none⟩ = some (.int .i64 a0_5) := (blk_cell BK362.out 5).trans rfl
        have hcz7_6 : w3.cell? ⟨gb362, 6, none⟩ = some (.int .i64 a0_6) := (blk_cell BK362.out 6).trans rfl
        have hcz7_7 : w3.cell? ⟨gb362, 7, none⟩ = some (.int .i64 a0_7) := (blk_cell BK362.out 7).trans rfl
        have hcz7_8 : w3.cell? ⟨gb362, 8, none⟩ = some (.int .i64 a0_8) := (blk_cell BK362.out 8).trans rfl
        have hcz7_9 : w3.cell? ⟨gb362, 9, none⟩ = some (.int .i64 a0_9) := (blk_cell BK362.out 9).trans rfl
        have hfz7_0 := blk_frozen BK362.out 0
        have hfz7_1 := blk_frozen BK362.out 1
        have hfz7_2 := blk_frozen BK362.out 2
        have hfz7_3 := blk_frozen BK362.out 3
        have hfz7_4 := blk_frozen BK362.out 4
        have hfz7_5 := blk_frozen BK362.out 5
        have hfz7_6 := blk_frozen BK362.out 6
        have hfz7_7 := blk_frozen BK362.out 7
        have hfz7_8 := blk_frozen BK362.out 8
        have hfz7_9 := blk_frozen BK362.out 9
        go_wp2
        repeat (go_quiet (fail); try go_wp2)
        go_meet
        case rel => exact ⟨_, (true), (by first | rfl | (simp; done) | (simp [*]; done)), H', ⟨by first | omega | exact Nat.le_refl _⟩, ⟨by (with_reducible repeat (first | refine blk_drewN ?_ _ | refine blk_drew ?_ | refine blk_alloc ?_ _)); exact BK362.out⟩, ⟨by repeat (first | (with_reducible first | exact HB.out | apply below_alloc | apply pw_below_drewN | apply below_drew1 | refine below_set ?_ GE362.out) | exact HB.out)⟩⟩
      · rw [if_neg c6] at H
        have c6b0 : decide (1099511627776 < a0_0) = false := decide_eq_false c6
        clear c6
        have H' := Aside0.mk H
        clear H
        have hcz8_0 : w3.cell? ⟨gb362, 0, none⟩ = some (.int .i64 a0_0) := (blk_cell BK362.out 0).trans rfl
        have hcz8_1 : w3.cell? ⟨gb362, 1, none⟩ = some (.int .i64 a0_1) := (blk_cell BK362.out 1).trans rfl
        have hcz8_2 : w3.cell? ⟨gb362, 2, none⟩ = some (.int .i64 a0_2) := (blk_cell BK362.out 2).trans rfl
        have hcz8_3 : w3.cell? ⟨gb362, 3, none⟩ = some (.int .i64 a0_3) := (blk_cell BK362.out 3).trans rfl
        have hcz8_4 : w3.cell? ⟨gb362, 4, none⟩ = some (.int .i64 a0_4) := (blk_cell BK362.out 4).trans rfl
        have hcz8_5 : w3.cell? ⟨gb362, 5, none⟩ = some (.int .i64 a0_5) := (blk_cell BK362.out 5).trans rfl
        have hcz8_6 : w3.cell? ⟨gb362, 6, none⟩ = some (.int .i64 a0_6) := (blk_cell BK362.out 6).trans rfl
        have hcz8_7 : w3.cell? ⟨gb362, 7, none⟩ = some (.int .i64 a0_7) := (blk_cell BK362.out 7).trans rfl
        have hcz8_8 : w3.cell? ⟨gb362, 8, none⟩ = some (.int .i64 a0_8) := (blk_cell BK362.out 8).trans rfl
        have hcz8_9 : w3.cell? ⟨gb362, 9, none⟩ = some (.int .i64 a0_9) := (blk_cell BK362.out 9).trans rfl
        have hfz8_0 := blk_frozen BK362.out 0
        have hfz8_1 := blk_frozen BK362.out 1
        have hfz8_2 := blk_frozen BK362.out 2
        have hfz8_3 := blk_frozen BK362.out 3
        have hfz8_4 := blk_frozen BK362.out 4
        have hfz8_5 := blk_frozen BK362.out 5
        have hfz8_6 := blk_frozen BK362.out 6
        have hfz8_7 := blk_frozen BK362.out 7
        have hfz8_8 := blk_frozen BK362.out 8
        have hfz8_9 := blk_frozen BK362.out 9
        go_wp2
        repeat (go_quiet (fail); try go_wp2)
        go_meet
        case rel => exact ⟨_, (decide (a0_2 > a0_3)), (by first | rfl | (simp; done) | (simp [*]; done)), H', ⟨by first | omega | exact Nat.le_refl _⟩, ⟨by (with_reducible repeat (first | refine blk_drewN ?_ _ | refine blk_drew ?_ | refine blk_alloc ?_ _)); exact BK362.out⟩, ⟨by repeat (first | (with_reducible first | exact HB.out | apply below_alloc | apply pw_below_drewN | apply below_drew1 | refine below_set ?_ GE362.out) | exact HB.out)⟩⟩
  case rest =>
    clear HC2
    try clear c2
    try clear p2
    try clear c4
    try clear c4b0
    try clear c6
    try clear c6b0
    try clear hcz5_0
    try clear hcz5_1
    try clear hcz5_2
    try clear hcz5_3
    try clear hcz5_4
    try clear hcz5_5
    try clear hcz5_6
    try clear hcz5_7
    try clear hcz5_8
    try clear hcz5_9
    try clear hcz7_0
    try clear hcz7_1
    try clear hcz7_2
    try clear hcz7_3
    try clear hcz7_4
    try clear hcz7_5
    try clear hcz7_6
    try clear hcz7_7
    try clear hcz7_8
    try clear hcz7_9
    try clear hcz8_0
    try clear hcz8_1
    try clear hcz8_2
    try clear hcz8_3
    try clear hcz8_4
    try clear hcz8_5
    try clear hcz8_6
    try clear hcz8_7
    try clear hcz8_8
    try clear hcz8_9
    try clear hfz5_0
    try clear hfz5_1
    try clear hfz5_2
    try clear hfz5_3
    try clear hfz5_4
    try clear hfz5_5
    try clear hfz5_6
    try clear hfz5_7
    try clear hfz5_8
    try clear hfz5_9
    try clear hfz7_0
    try clear hfz7_1
    try clear hfz7_2
    try clear hfz7_3
    try clear hfz7_4
    try clear hfz7_5
    try clear hfz7_6
    try clear hfz7_7
    try clear hfz7_8
    try clear hfz7_9
    try clear hfz8_0
    try clear hfz8_1
    try clear hfz8_2
    try clear hfz8_3
    try clear hfz8_4
    try clear hfz8_5
    try clear hfz8_6
    try clear hfz8_7
    try clear hfz8_8
    try clear hfz8_9
    obtain ⟨kq, x21_1, rfl, HA, HJ1, BK362, HB⟩ := hcut
    cases kq with
    | zero => exact absurd HA.out (by simp [headgateref15_May.j0])
    | succ kj1 =>
      have H := HA.out
      clear HA
      simp only [headgateref15_May.j0] at H
      by_cases c9 : x21_1 = true
      · subst c9
        have H1 : (some false) = some r := by rw [if_pos rfl] at H; exact H
        clear H
        have H := H1
        clear H1
        obtain rfl := Option.some.inj H
        go_wp2
        repeat (go_quiet (fail); try go_wp2)
        go_ret
        exact ⟨by first | rfl | (simp [errW_none, errW_some] <;> rfl) | (simp [*, errW_none, errW_some] <;> rfl), by repeat (first | (with_reducible first | exact HB.out | apply below_alloc | apply pw_below_drewN | apply below_drew1 | refine below_set ?_ GE362.out) | exact HB.out)⟩
      · replace c9 := Bool.eq_false_iff.mpr c9
        subst c9
        have H1 : (headgateref15_May.l0 kj1 0 0 a0_0 a0_1 a0_2 a0_3 a0_4 a0_5 a0_6 a0_7 a0_8 a0_9) = some r := by rw [if_neg (show ¬ (false = true) by decide)] at H; exact H
        clear H
        have H := H1
        clear H1
        have H' := Aside0.mk H
        clear H
        go_wp2
        repeat (go_quiet (fail); try go_wp2)
        go_loopg [3, 4] kj1 (fun kq v3 v4 w' => ∃ (x3_2 : Int) (x4_2 : Int), v3 = .int .i64 x3_2 ∧ v4 = .int .i64 x4_2 ∧ Aside0 (headgateref15_May.l0 kq x3_2 x4_2 a0_0 a0_1 a0_2 a0_3 a0_4 a0_5 a0_6 a0_7 a0_8 a0_9 = some r) ∧ Aside0 (kq ≤ kj1) ∧ Aside0 (w'.heap[gb362]? = some (.cells #[.int .i64 a0_0, .int .i64 a0_1, .int .i64 a0_2, .int .i64 a0_3, .int .i64 a0_4, .int .i64 a0_5, .int .i64 a0_6, .int .i64 a0_7, .int .i64 a0_8, .int .i64 a0_9] 24 (0, 0))) ∧ Aside0 (Below w.heap.size w w'))
        case atStart => exact ⟨(0), (0), (by first | rfl | (simp; done) | (simp [*]; done)), (by first | rfl | (simp; done) | (simp [*]; done)), H', ⟨Nat.le_refl _⟩, ⟨by (with_reducible repeat (first | refine blk_drewN ?_ _ | refine blk_drew ?_ | refine blk_alloc ?_ _)); exact BK362.out⟩, ⟨by repeat (first | (with_reducible first | exact HB.out | apply below_alloc | apply pw_below_drewN | apply below_drew1 | refine below_set ?_ GE362.out) | exact HB.out)⟩⟩
        case round =>
          clear H'
          try clear c2
          try clear p2
          try clear c4
          try clear c4b0
          try clear c6
          try clear c6b0
          try clear c9
          try clear hcz5_0
          try clear hcz5_1
          try clear hcz5_2
          try clear hcz5_3
          try clear hcz5_4
          try clear hcz5_5
          try clear hcz5_6
          try clear hcz5_7
          try clear hcz5_8
          try clear hcz5_9
          try clear hcz7_0
          try clear hcz7_1
          try clear hcz7_2
          try clear hcz7_3
          try clear hcz7_4
          try clear hcz7_5
          try clear hcz7_6
          try clear hcz7_7
          try clear hcz7_8
          try clear hcz7_9
          try clear hcz8_0
          try clear hcz8_1
          try clear hcz8_2
          try clear hcz8_3
          try clear hcz8_4
          try clear hcz8_5
          try clear hcz8_6
          try clear hcz8_7
          try clear hcz8_8
          try clear hcz8_9
          try clear hfz5_0
          try clear hfz5_1
          try clear hfz5_2
          try clear hfz5_3
          try clear hfz5_4
          try clear hfz5_5
          try clear hfz5_6
          try clear hfz5_7
          try clear hfz5_8
          try clear hfz5_9
          try clear hfz7_0
          try clear hfz7_1
          try clear hfz7_2
          try clear hfz7_3
          try clear hfz7_4
          try clear hfz7_5
          try clear hfz7_6
          try clear hfz7_7
          try clear hfz7_8
          try clear hfz7_9
          try clear hfz8_0
          try clear hfz8_1
          try clear hfz8_2
          try clear hfz8_3
          try clear hfz8_4
          try clear hfz8_5
          try clear hfz8_6
          try clear hfz8_7
          try clear hfz8_8
          try clear hfz8_9
          try clear p2
          obtain ⟨x3_2, x4_2, rfl, rfl, HA, HK2, BK362, HB⟩ := hrel
          cases gk with
          | zero => exact absurd HA.out (by simp [headgateref15_May.l0])
          | succ k2 =>
            have H := HA.out
            clear HA
            simp only [headgateref15_May.l0] at H
            by_cases c10 : x4_2 < 4
            · rw [if_pos c10] at H
              have c10b0 : decide (x4_2 < 4) = true := decide_eq_true c10
              clear c10
              by_cases c11 : x4_2 = 0
              · subst c11
                have H1 : (if a0_4 < 0 then (some false) else (if a0_4 > 1099511627776 then (some false) else (headgateref15_May.l0 k2 (wrap64 (x3_2 + a0_4)) (wrap64 (0 + 1)) a0_0 a0_1 a0_2 a0_3 a0_4 a0_5 a0_6 a0_7 a0_8 a0_9))) = some r := by rw [if_pos rfl] at H; exact H
                clear H
                have H := H1
                clear H1
                by_cases c12 : a0_4 < 0
                · rw [if_pos c12] at H
                  have c12b0 : decide (a0_4 < 0) = true := decide_eq_true c12
                  clear c12
                  obtain rfl := Option.some.inj H
                  have hcz13_0 : wr.cell? ⟨gb362, 0, none⟩ = some (.int .i64 a0_0) := (blk_cell BK362.out 0).trans rfl
                  have hcz13_1 : wr.cell? ⟨gb362, 1, none⟩ = some (.int .i64 a0_1) := (blk_cell BK362.out 1).trans rfl
                  have hcz13_2 : wr.cell? ⟨gb362, 2, none⟩ = some (.int .i64 a0_2) := (blk_cell BK362.out 2).trans rfl
                  have hcz13_3 : wr.cell? ⟨gb362, 3, none⟩ = some (.int .i64 a0_3) := (blk_cell BK362.out 3).trans rfl
                  have hcz13_4 : wr.cell? ⟨gb362, 4, none⟩ = some (.int .i64 a0_4) := (blk_cell BK362.out 4).trans rfl
                  have hcz13_5 : wr.cell? ⟨gb362, 5, none⟩ = some (.int .i64 a0_5) := (blk_cell BK362.out 5).trans rfl
                  have hcz13_6 : wr.cell? ⟨gb362, 6, none⟩ = some (.int .i64 a0_6) := (blk_cell BK362.out 6).trans rfl
                  have hcz13_7 : wr.cell? ⟨gb362, 7, none⟩ = some (.int .i64 a0_7) := (blk_cell BK362.out 7).trans rfl
                  have hcz13_8 : wr.cell? ⟨gb362, 8, none⟩ = some (.int .i64 a0_8) := (blk_cell BK362.out 8).trans rfl
                  have hcz13_9 : wr.cell? ⟨gb362, 9, none⟩ = some (.int .i64 a0_9) := (blk_cell BK362.out 9).trans rfl
                  have hfz13_0 := blk_frozen BK362.out 0
                  have hfz13_1 := blk_frozen BK362.out 1
                  have hfz13_2 := blk_frozen BK362.out 2
                  have hfz13_3 := blk_frozen BK362.out 3
                  have hfz13_4 := blk_frozen BK362.out 4
                  have hfz13_5 := blk_frozen BK362.out 5
                  have hfz13_6 := blk_frozen BK362.out 6
                  have hfz13_7 := blk_frozen BK362.out 7
                  have hfz13_8 := blk_frozen BK362.out 8
                  have hfz13_9 := blk_frozen BK362.out 9
                  go_wp2
                  repeat (go_quiet (fail); try go_wp2)
                  go_ret
                  exact ⟨by first | rfl | (simp [errW_none, errW_some] <;> rfl) | (simp [*, errW_none, errW_some] <;> rfl), by repeat (first | (with_reducible first | exact HB.out | apply below_alloc | apply pw_below_drewN | apply below_drew1 | refine below_set ?_ GE362.out) | exact HB.out)⟩
                · rw [if_neg c12] at H
                  have c12b0 : decide (a0_4 < 0) = false := decide_eq_false c12
                  clear c12
                  by_cases c14 : a0_4 > 1099511627776
                  · rw [if_pos c14] at H
                    have c14b0 : decide (1099511627776 < a0_4) = true := decide_eq_true c14
                    clear c14
                    obtain rfl := Option.some.inj H
                    have hcz15_0 : wr.cell? ⟨gb362, 0, none⟩ = some (.int .i64 a0_0) := (blk_cell BK362.out 0).trans rfl
                    have hcz15_1 : wr.cell? ⟨gb362, 1, none⟩ = some (.int .i64 a0_1) := (blk_cell BK362.out 1).trans rfl
                    have hcz15_2 : wr.cell? ⟨gb362, 2, none⟩ = some (.int .i64 a0_2) := (blk_cell BK362.out 2).trans rfl
                    have hcz15_3 : wr.cell? ⟨gb362, 3, none⟩ = some (.int .i64 a0_3) := (blk_cell BK362.out 3).trans rfl
                    have hcz15_4 : wr.cell? ⟨gb362, 4, none⟩ = some (.int .i64 a0_4) := (blk_cell BK362.out 4).trans rfl
                    have hcz15_5 : wr.cell? ⟨gb362, 5, none⟩ = some (.int .i64 a0_5) := (blk_cell BK362.out 5).trans rfl
                    have hcz15_6 : wr.cell? ⟨gb362, 6, none⟩ = some (.int .i64 a0_6) := (blk_cell BK362.out 6).trans rfl
                    have hcz15_7 : wr.cell? ⟨gb362, 7, none⟩ = some (.int .i64 a0_7) := (blk_cell BK362.out 7).trans rfl
                    have hcz15_8 : wr.cell? ⟨gb362, 8, none⟩ = some (.int .i64 a0_8) := (blk_cell BK362.out 8).trans rfl
                    have hcz15_9 : wr.cell? ⟨gb362, 9, none⟩ = some (.int .i64 a0_9) := (blk_cell BK362.out 9).trans rfl
                    have hfz15_0 := blk_frozen BK362.out 0
                    have hfz15_1 := blk_frozen BK362.out 1
                    have hfz15_2 := blk_frozen BK362.out 2
                    have hfz15_3 := blk_frozen BK362.out 3
                    have hfz15_4 := blk_frozen BK362.out 4
                    have hfz15_5 := blk_frozen BK362.out 5
                    have hfz15_6 := blk_frozen BK362.out 6
                    have hfz15_7 := blk_frozen BK362.out 7
                    have hfz15_8 := blk_frozen BK362.out 8
                    have hfz15_9 := blk_frozen BK362.out 9
                    go_wp2
                    repeat (go_quiet (fail); try go_wp2)
                    go_ret
                    exact ⟨by first | rfl | (simp [errW_none, errW_some] <;> rfl) | (simp [*, errW_none, errW_some] <;> rfl), by repeat (first | (with_reducible first | exact HB.out | apply below_alloc | apply pw_below_drewN | apply below_drew1 | refine below_set ?_ GE362.out) | exact HB.out)⟩
                  · rw [if_neg c14] at H
                    have c14b0 : decide (1099511627776 < a0_4) = false := decide_eq_false c14
                    clear c14
                    have H' := Aside0.mk H
                    clear H
                    have hcz16_0 : wr.cell? ⟨gb362, 0, none⟩ = some (.int .i64 a0_0) := (blk_cell BK362.out 0).trans rfl
                    have hcz16_1 : wr.cell? ⟨gb362, 1, none⟩ = some (.int .i64 a0_1) := (blk_cell BK362.out 1).trans rfl
                    have hcz16_2 : wr.cell? ⟨gb362, 2, none⟩ = some (.int .i64 a0_2) := (blk_cell BK362.out 2).trans rfl
                    have hcz16_3 : wr.cell? ⟨gb362, 3, none⟩ = some (.int .i64 a0_3) := (blk_cell BK362.out 3).trans rfl
                    have hcz16_4 : wr.cell? ⟨gb362, 4, none⟩ = some (.int .i64 a0_4) := (blk_cell BK362.out 4).trans rfl
                    have hcz16_5 : wr.cell? ⟨gb362, 5, none⟩ = some (.int .i64 a0_5) := (blk_cell BK362.out 5).trans rfl
                    have hcz16_6 : wr.cell? ⟨gb362, 6, none⟩ = some (.int .i64 a0_6) := (blk_cell BK362.out 6).trans rfl
                    have hcz16_7 : wr.cell? ⟨gb362, 7, none⟩ = some (.int .i64 a0_7) := (blk_cell BK362.out 7).trans rfl
                    have hcz16_8 : wr.cell? ⟨gb362, 8, none⟩ = some (.int .i64 a0_8) := (blk_cell BK362.out 8).trans rfl
                    have hcz16_9 : wr.cell? ⟨gb362, 9, none⟩ = some (.int .i64 a0_9) := (blk_cell BK362.out 9).trans rfl
                    have hfz16_0 := blk_frozen BK362.out 0
                    have hfz16_1 := blk_frozen BK362.out 1
                    have hfz16_2 := blk_frozen BK362.out 2
                    have hfz16_3 := blk_frozen BK362.out 3
                    have hfz16_4 := blk_frozen BK362.out 4
                    have hfz16_5 := blk_frozen BK362.out 5
                    have hfz16_6 := blk_frozen BK362.out 6
                    have hfz16_7 := blk_frozen BK362.out 7
                    have hfz16_8 := blk_frozen BK362.out 8
                    have hfz16_9 := blk_frozen BK362.out 9
                    go_wp2
                    repeat (go_quiet (fail); try go_wp2)
                    go_roundg k2
                    case measure => have := HJ1.out; have := HK2.out; omega
                    case rel => exact ⟨(wrap64 (x3_2 + a0_4)), (wrap64 (0 + 1)), (by first | rfl | (simp; done) | (simp [*]; done) | (simp [wrap64]; done)), (by first | rfl | (simp; done) | (simp [*]; done) | (simp [wrap64]; done)), H', ⟨by have := HJ1.out; have := HK2.out; omega⟩, ⟨by (with_reducible repeat (first | refine blk_drewN ?_ _ | refine blk_drew ?_ | refine blk_alloc ?_ _)); exact BK362.out⟩, ⟨by repeat (first | (with_reducible first | exact HB.out | apply below_alloc | apply pw_below_drewN | apply below_drew1 | refine below_set ?_ GE362.out) | exact HB.out)⟩⟩
              · rw [if_neg c11] at H
                have Nc11 := Aside0.mk c11
                clear c11
                by_cases c17 : x4_2 = 1
                · subst c17
                  have H1 : (if a0_5 < 0 then (some false) else (if a0_5 > 1099511627776 then (some false) else (headgateref15_May.l0 k2 (wrap64 (x3_2 + a0_5)) (wrap64 (1 + 1)) a0_0 a0_1 a0_2 a0_3 a0_4 a0_5 a0_6 a0_7 a0_8 a0_9))) = some r := by rw [if_pos rfl] at H; exact H
                  clear H
                  have H := H1
                  clear H1
                  by_cases c18 : a0_5 < 0
                  · rw [if_pos c18] at H
                    have c18b0 : decide (a0_5 < 0) = true := decide_eq_true c18
                    clear c18
                    obtain rfl := Option.some.inj H
                    have hcz19_0 : wr.cell? ⟨gb362, 0, none⟩ = some (.int .i64 a0_0) := (blk_cell BK362.out 0).trans rfl
                    have hcz19_1 : wr.cell? ⟨gb362, 1, none⟩ = some (.int .i64 a0_1) := (blk_cell BK362.out 1).trans rfl
                    have hcz19_2 : wr.cell? ⟨gb362, 2, none⟩ = some (.int .i64 a0_2) := (blk_cell BK362.out 2).trans rfl
                    have hcz19_3 : wr.cell? ⟨gb362, 3, none⟩ = some (.int .i64 a0_3) := (blk_cell BK362.out 3).trans rfl
                    have hcz19_4 : wr.cell? ⟨gb362, 4, none⟩ = some (.int .i64 a0_4) := (blk_cell BK362.out 4).trans rfl
                    have hcz19_5 : wr.cell? ⟨gb362, 5, none⟩ = some (.int .i64 a0_5) := (blk_cell BK362.out 5).trans rfl
                    have hcz19_6 : wr.cell? ⟨gb362, 6, none⟩ = some (.int .i64 a0_6) := (blk_cell BK362.out 6).trans rfl
                    have hcz19_7 : wr.cell? ⟨gb362, 7, none⟩ = some (.int .i64 a0_7) := (blk_cell BK362.out 7).trans rfl
                    have hcz19_8 : wr.cell? ⟨gb362, 8, none⟩ = some (.int .i64 a0_8) := (blk_cell BK362.out 8).trans rfl
                    have hcz19_9 : wr.cell? ⟨gb362, 9, none⟩ = some (.int .i64 a0_9) := (blk_cell BK362.out 9).trans rfl
                    have hfz19_0 := blk_frozen BK362.out 0
                    have hfz19_1 := blk_frozen BK362.out 1
                    have hfz19_2 := blk_frozen BK362.out 2
                    have hfz19_3 := blk_frozen BK362.out 3
                    have hfz19_4 := blk_frozen BK362.out 4
                    have hfz19_5 := blk_frozen BK362.out 5
                    have hfz19_6 := blk_frozen BK362.out 6
                    have hfz19_7 := blk_frozen BK362.out 7
                    have hfz19_8 := blk_frozen BK362.out 8
                    have hfz19_9 := blk_frozen BK362.out 9
                    go_wp2
                    repeat (go_quiet (fail); try go_wp2)
                    go_ret
                    exact ⟨by first | rfl | (simp [errW_none, errW_some] <;> rfl) | (simp [*, errW_none, errW_some] <;> rfl), by repeat (first | (with_reducible first | exact HB.out | apply below_alloc | apply pw_below_drewN | apply below_drew1 | refine below_set ?_ GE362.out) | exact HB.out)⟩
                  · rw [if_neg c18] at H
                    have c18b0 : decide (a0_5 < 0) = false := decide_eq_false c18
                    clear c18
                    by_cases c20 : a0_5 > 1099511627776
                    · rw [if_pos c20] at H
                      have c20b0 : decide (1099511627776 < a0_5) = true := decide_eq_true c20
                      clear c20
                      obtain rfl := Option.some.inj H
                      have hcz21_0 : wr.cell? ⟨gb362, 0, none⟩ = some (.int .i64 a0_0) := (blk_cell BK362.out 0).trans rfl
                      have hcz21_1 : wr.cell? ⟨gb362, 1, none⟩ = some (.int .i64 a0_1) := (blk_cell BK362.out 1).trans rfl
                      have hcz21_2 : wr.cell? ⟨gb362, 2, none⟩ = some (.int .i64 a0_2) := (blk_cell BK362.out 2).trans rfl
                      have hcz21_3 : wr.cell? ⟨gb362, 3, none⟩ = some (.int .i64 a0_3) := (blk_cell BK362.out 3).trans rfl
                      have hcz21_4 : wr.cell? ⟨gb362, 4, none⟩ = some (.int .i64 a0_4) := (blk_cell BK362.out 4).trans rfl
                      have hcz21_5 : wr.cell? ⟨gb362, 5, none⟩ = some (.int .i64 a0_5) := (blk_cell BK362.out 5).trans rfl
                      have hcz21_6 : wr.cell? ⟨gb362, 6, none⟩ = some (.int .i64 a0_6) := (blk_cell BK362.out 6).trans rfl
                      have hcz21_7 : wr.cell? ⟨gb362, 7, none⟩ = some (.int .i64 a0_7) := (blk_cell BK362.out 7).trans rfl
                      have hcz21_8 : wr.cell? ⟨gb362, 8, none⟩ = some (.int .i64 a0_8) := (blk_cell BK362.out 8).trans rfl
                      have hcz21_9 : wr.cell? ⟨gb362, 9, none⟩ = some (.int .i64 a0_9) := (blk_cell BK362.out 9).trans rfl
                      have hfz21_0 := blk_frozen BK362.out 0
                      have hfz21_1 := blk_frozen BK362.out 1
                      have hfz21_2 := blk_frozen BK362.out 2
                      have hfz21_3 := blk_frozen BK362.out 3
                      have hfz21_4 := blk_frozen BK362.out 4
                      have hfz21_5 := blk_frozen BK362.out 5
                      have hfz21_6 := blk_frozen BK362.out 6
                      have hfz21_7 := blk_frozen BK362.out 7
                      have hfz21_8 := blk_frozen BK362.out 8
                      have hfz21_9 := blk_frozen BK362.out 9
                      go_wp2
                      repeat (go_quiet (fail); try go_wp2)
                      go_ret
                      exact ⟨by first | rfl | (simp [errW_none, errW_some] <;> rfl) | (simp [*, errW_none, errW_some] <;> rfl), by repeat (first | (with_reducible first | exact HB.out | apply below_alloc | apply pw_below_drewN | apply below_drew1 | refine below_set ?_ GE362.out) | exact HB.out)⟩
                    · rw [if_neg c20] at H
                      have c20b0 : decide (1099511627776 < a0_5) = false := decide_eq_false c20
                      clear c20
                      have H' := Aside0.mk H
                      clear H
                      have hcz22_0 : wr.cell? ⟨gb362, 0, none⟩ = some (.int .i64 a0_0) := (blk_cell BK362.out 0).trans rfl
                      have hcz22_1 : wr.cell? ⟨gb362, 1, none⟩ = some (.int .i64 a0_1) := (blk_cell BK362.out 1).trans rfl
                      have hcz22_2 : wr.cell? ⟨gb362, 2, none⟩ = some (.int .i64 a0_2) := (blk_cell BK362.out 2).trans rfl
                      have hcz22_3 : wr.cell? ⟨gb362, 3, none⟩ = some (.int .i64 a0_3) := (blk_cell BK362.out 3).trans rfl
                      have hcz22_4 : wr.cell? ⟨gb362, 4, none⟩ = some (.int .i64 a0_4) := (blk_cell BK362.out 4).trans rfl
                      have hcz22_5 : wr.cell? ⟨gb362, 5, none⟩ = some (.int .i64 a0_5) := (blk_cell BK362.out 5).trans rfl
                      have hcz22_6 : wr.cell? ⟨gb362, 6, none⟩ = some (.int .i64 a0_6) := (blk_cell BK362.out 6).trans rfl
                      have hcz22_7 : wr.cell? ⟨gb362, 7, none⟩ = some (.int .i64 a0_7) := (blk_cell BK362.out 7).trans rfl
                      have hcz22_8 : wr.cell? ⟨gb362, 8, none⟩ = some (.int .i64 a0_8) := (blk_cell BK362.out 8).trans rfl
                      have hcz22_9 : wr.cell? ⟨gb362, 9, none⟩ = some (.int .i64 a0_9) := (blk_cell BK362.out 9).trans rfl
                      have hfz22_0 := blk_frozen BK362.out 0
                      have hfz22_1 := blk_frozen BK362.out 1
                      have hfz22_2 := blk_frozen BK362.out 2
                      have hfz22_3 := blk_frozen BK362.out 3
                      have hfz22_4 := blk_frozen BK362.out 4
                      have hfz22_5 := blk_frozen BK362.out 5
                      have hfz22_6 := blk_frozen BK362.out 6
                      have hfz22_7 := blk_frozen BK362.out 7
                      have hfz22_8 := blk_frozen BK362.out 8
                      have hfz22_9 := blk_frozen BK362.out 9
                      go_wp2
                      repeat (go_quiet (fail); try go_wp2)
                      go_roundg k2
                      case measure => have := HJ1.out; have := HK2.out; omega
                      case rel => exact ⟨(wrap64 (x3_2 + a0_5)), (wrap64 (1 + 1)), (by first | rfl | (simp; done) | (simp [*]; done) | (simp [wrap64]; done)), (by first | rfl | (simp; done) | (simp [*]; done) | (simp [wrap64]; done)), H', ⟨by have := HJ1.out; have := HK2.out; omega⟩, ⟨by (with_reducible repeat (first | refine blk_drewN ?_ _ | refine blk_drew ?_ | refine blk_alloc ?_ _)); exact BK362.out⟩, ⟨by repeat (first | (with_reducible first | exact HB.out | apply below_alloc | apply pw_below_drewN | apply below_drew1 | refine below_set ?_ GE362.out) | exact HB.out)⟩⟩
                · rw [if_neg c17] at H
                  have Nc17 := Aside0.mk c17
                  clear c17
                  by_cases c23 : x4_2 = 2
                  · subst c23
                    have H1 : (if a0_6 < 0 then (some false) else (if a0_6 > 1099511627776 then (some false) else (headgateref15_May.l0 k2 (wrap64 (x3_2 + a0_6)) (wrap64 (2 + 1)) a0_0 a0_1 a0_2 a0_3 a0_4 a0_5 a0_6 a0_7 a0_8 a0_9))) = some r := by rw [if_pos rfl] at H; exact H
                    clear H
                    have H := H1
                    clear H1
                    by_cases c24 : a0_6 < 0
                    · rw [if_pos c24] at H
                      have c24b0 : decide (a0_6 < 0) = true := decide_eq_true c24
                      clear c24
                      obtain rfl := Option.some.inj H
                      have hcz25_0 : wr.cell? ⟨gb362, 0, none⟩ = some (.int .i64 a0_0) := (blk_cell BK362.out 0).trans rfl
                      have hcz25_1 : wr.cell? ⟨gb362, 1, none⟩ = some (.int .i64 a0_1) := (blk_cell BK362.out 1).trans rfl
                      have hcz25_2 : wr.cell? ⟨gb362, 2, none⟩ = some (.int .i64 a0_2) := (blk_cell BK362.out 2).trans rfl
                      have hcz25_3 : wr.cell? ⟨gb362, 3, none⟩ = some (.int .i64 a0_3) := (blk_cell BK362.out 3).trans rfl
                      have hcz25_4 : wr.cell? ⟨gb362, 4, none⟩ = some (.int .i64 a0_4) := (blk_cell BK362.out 4).trans rfl
                      have hcz25_5 : wr.cell? ⟨gb362, 5, none⟩ = some (.int .i64 a0_5) := (blk_cell BK362.out 5).trans rfl
                      have hcz25_6 : wr.cell? ⟨gb362, 6, none⟩ = some (.int .i64 a0_6) := (blk_cell BK362.out 6).trans rfl
                      have hcz25_7 : wr.cell? ⟨gb362, 7, none⟩ = some (.int .i64 a0_7) := (blk_cell BK362.out 7).trans rfl
                      have hcz25_8 : wr.cell? ⟨gb362, 8, none⟩ = some (.int .i64 a0_8) := (blk_cell BK362.out 8).trans rfl
                      have hcz25_9 : wr.cell? ⟨gb362, 9, none⟩ = some (.int .i64 a0_9) := (blk_cell BK362.out 9).trans rfl
                      have hfz25_0 := blk_frozen BK362.out 0
                      have hfz25_1 := blk_frozen BK362.out 1
                      have hfz25_2 := blk_frozen BK362.out 2
                      have hfz25_3 := blk_frozen BK362.out 3
                      have hfz25_4 := blk_frozen BK362.out 4
                      have hfz25_5 := blk_frozen BK362.out 5
                      have hfz25_6 := blk_frozen BK362.out 6
                      have hfz25_7 := blk_frozen BK362.out 7
                      have hfz25_8 := blk_frozen BK362.out 8
                      have hfz25_9 := blk_frozen BK362.out 9
                      go_wp2
                      repeat (go_quiet (fail); try go_wp2)
                      go_ret
                      exact ⟨by first | rfl | (simp [errW_none, errW_some] <;> rfl) | (simp [*, errW_none, errW_some] <;> rfl), by repeat (first | (with_reducible first | exact HB.out | apply below_alloc | apply pw_below_drewN | apply below_drew1 | refine below_set ?_ GE362.out) | exact HB.out)⟩
                    · rw [if_neg c24] at H
                      have c24b0 : decide (a0_6 < 0) = false := decide_eq_false c24
                      clear c24
                      by_cases c26 : a0_6 > 1099511627776
                      · rw [if_pos c26] at H
                        have c26b0 : decide (1099511627776 < a0_6) = true := decide_eq_true c26
                        clear c26
                        obtain rfl := Option.some.inj H
                        have hcz27_0 : wr.cell? ⟨gb362, 0, none⟩ = some (.int .i64 a0_0) := (blk_cell BK362.out 0).trans rfl
                        have hcz27_1 : wr.cell? ⟨gb362, 1, none⟩ = some (.int .i64 a0_1) := (blk_cell BK362.out 1).trans rfl
                        have hcz27_2 : wr.cell? ⟨gb362, 2, none⟩ = some (.int .i64 a0_2) := (blk_cell BK362.out 2).trans rfl
                        have hcz27_3 : wr.cell? ⟨gb362, 3, none⟩ = some (.int .i64 a0_3) := (blk_cell BK362.out 3).trans rfl
                        have hcz27_4 : wr.cell? ⟨gb362, 4, none⟩ = some (.int .i64 a0_4) := (blk_cell BK362.out 4).trans rfl
                        have hcz27_5 : wr.cell? ⟨gb362, 5, none⟩ = some (.int .i64 a0_5) := (blk_cell BK362.out 5).trans rfl
                        have hcz27_6 : wr.cell? ⟨gb362, 6, none⟩ = some (.int .i64 a0_6) := (blk_cell BK362.out 6).trans rfl
                        have hcz27_7 : wr.cell? ⟨gb362, 7, none⟩ = some (.int .i64 a0_7) := (blk_cell BK362.out 7).trans rfl
                        have hcz27_8 : wr.cell? ⟨gb362, 8, none⟩ = some (.int .i64 a0_8) := (blk_cell BK362.out 8).trans rfl
                        have hcz27_9 : wr.cell? ⟨gb362, 9, none⟩ = some (.int .i64 a0_9) := (blk_cell BK362.out 9).trans rfl
                        have hfz27_0 := blk_frozen BK362.out 0
                        have hfz27_1 := blk_frozen BK362.out 1
                        have hfz27_2 := blk_frozen BK362.out 2
                        have hfz27_3 := blk_frozen BK362.out 3
                        have hfz27_4 := blk_frozen BK362.out 4
                        have hfz27_5 := blk_frozen BK362.out 5
                        have hfz27_6 := blk_frozen BK362.out 6
                        have hfz27_7 := blk_frozen BK362.out 7
                        have hfz27_8 := blk_frozen BK362.out 8
                        have hfz27_9 := blk_frozen BK362.out 9
                        go_wp2
                        repeat (go_quiet (fail); try go_wp2)
                        go_ret
                        exact ⟨by first | rfl | (simp [errW_none, errW_some] <;> rfl) | (simp [*, errW_none, errW_some] <;> rfl), by repeat (first | (with_reducible first | exact HB.out | apply below_alloc | apply pw_below_drewN | apply below_drew1 | refine below_set ?_ GE362.out) | exact HB.out)⟩
                      · rw [if_neg c26] at H
                        have c26b0 : decide (1099511627776 < a0_6) = false := decide_eq_false c26
                        clear c26
                        have H' := Aside0.mk H
                        clear H
                        have hcz28_0 : wr.cell? ⟨gb362, 0, none⟩ = some (.int .i64 a0_0) := (blk_cell BK362.out 0).trans rfl
                        have hcz28_1 : wr.cell? ⟨gb362, 1, none⟩ = some (.int .i64 a0_1) := (blk_cell BK362.out 1).trans rfl
                        have hcz28_2 : wr.cell? ⟨gb362, 2, none⟩ = some (.int .i64 a0_2) := (blk_cell BK362.out 2).trans rfl
                        have hcz28_3 : wr.cell? ⟨gb362, 3, none⟩ = some (.int .i64 a0_3) := (blk_cell BK362.out 3).trans rfl
                        have hcz28_4 : wr.cell? ⟨gb362, 4, none⟩ = some (.int .i64 a0_4) := (blk_cell BK362.out 4).trans rfl
                        have hcz28_5 : wr.cell? ⟨gb362, 5, none⟩ = some (.int .i64 a0_5) := (blk_cell BK362.out 5).trans rfl
                        have hcz28_6 : wr.cell? ⟨gb362, 6, none⟩ = some (.int .i64 a0_6) := (blk_cell BK362.out 6).trans rfl
                        have hcz28_7 : wr.cell? ⟨gb362, 7, none⟩ = some (.int .i64 a0_7) := (blk_cell BK362.out 7).trans rfl
                        have hcz28_8 : wr.cell? ⟨gb362, 8, none⟩ = some (.int .i64 a0_8) := (blk_cell BK362.out 8).trans rfl
                        have hcz28_9 : wr.cell? ⟨gb362, 9, none⟩ = some (.int .i64 a0_9) := (blk_cell BK362.out 9).trans rfl
                        have hfz28_0 := blk_frozen BK362.out 0
                        have hfz28_1 := blk_frozen BK362.out 1
                        have hfz28_2 := blk_frozen BK362.out 2
                        have hfz28_3 := blk_frozen BK362.out 3
                        have hfz28_4 := blk_frozen BK362.out 4
                        have hfz28_5 := blk_frozen BK362.out 5
                        have hfz28_6 := blk_frozen BK362.out 6
                        have hfz28_7 := blk_frozen BK362.out 7
                        have hfz28_8 := blk_frozen BK362.out 8
                        have hfz28_9 := blk_frozen BK362.out 9
                        go_wp2
                        repeat (go_quiet (fail); try go_wp2)
                        go_roundg k2
                        case measure => have := HJ1.out; have := HK2.out; omega
                        case rel => exact ⟨(wrap64 (x3_2 + a0_6)), (wrap64 (2 + 1)), (by first | rfl | (simp; done) | (simp [*]; done) | (simp [wrap64]; done)), (by first | rfl | (simp; done) | (simp [*]; done) | (simp [wrap64]; done)), H', ⟨by have := HJ1.out; have := HK2.out; omega⟩, ⟨by (with_reducible repeat (first | refine blk_drewN ?_ _ | refine blk_drew ?_ | refine blk_alloc ?_ _)); exact BK362.out⟩, ⟨by repeat (first | (with_reducible first | exact HB.out | apply below_alloc | apply pw_below_drewN | apply below_drew1 | refine below_set ?_ GE362.out) | exact HB.out)⟩⟩
                  · rw [if_neg c23] at H
                    have Nc23 := Aside0.mk c23
                    clear c23
                    by_cases c29 : x4_2 = 3
                    · subst c29
                      have H1 : (if a0_7 < 0 then (some false) else (if a0_7 > 1099511627776 then (some false) else (headgateref15_May.l0 k2 (wrap64 (x3_2 + a0_7)) (wrap64 (3 + 1)) a0_0 a0_1 a0_2 a0_3 a0_4 a0_5 a0_6 a0_7 a0_8 a0_9))) = some r := by rw [if_pos rfl] at H; exact H
                      clear H
                      have H := H1
                      clear H1
                      by_cases c30 : a0_7 < 0
                      · rw [if_pos c30] at H
                        have c30b0 : decide (a0_7 < 0) = true := decide_eq_true c30
                        clear c30
                        obtain rfl := Option.some.inj H
                        have hcz31_0 : wr.cell? ⟨gb362, 0, none⟩ = some (.int .i64 a0_0) := (blk_cell BK362.out 0).trans rfl
                        have hcz31_1 : wr.cell? ⟨gb362, 1, none⟩ = some (.int .i64 a0_1) := (blk_cell BK362.out 1).trans rfl
                        have hcz31_2 : wr.cell? ⟨gb362, 2, none⟩ = some (.int .i64 a0_2) := (blk_cell BK362.out 2).trans rfl
                        have hcz31_3 : wr.cell? ⟨gb362, 3, none⟩ = some (.int .i64 a0_3) := (blk_cell BK362.out 3).trans rfl
                        have hcz31_4 : wr.cell? ⟨gb362, 4, none⟩ = some (.int .i64 a0_4) := (blk_cell BK362.out 4).trans rfl
                        have hcz31_5 : wr.cell? ⟨gb362, 5, none⟩ = some (.int .i64 a0_5) := (blk_cell BK362.out 5).trans rfl
                        have hcz31_6 : wr.cell? ⟨gb362, 6, none⟩ = some (.int .i64 a0_6) := (blk_cell BK362.out 6).trans rfl
                        have hcz31_7 : wr.cell? ⟨gb362, 7, none⟩ = some (.int .i64 a0_7) := (blk_cell BK362.out 7).trans rfl
                        have hcz31_8 : wr.cell? ⟨gb362, 8, none⟩ = some (.int .i64 a0_8) := (blk_cell BK362.out 8).trans rfl
                        have hcz31_9 : wr.cell? ⟨gb362, 9, none⟩ = some (.int .i64 a0_9) := (blk_cell BK362.out 9).trans rfl
                        have hfz31_0 := blk_frozen BK362.out 0
                        have hfz31_1 := blk_frozen BK362.out 1
                        have hfz31_2 := blk_frozen BK362.out 2
                        have hfz31_3 := blk_frozen BK362.out 3
                        have hfz31_4 := blk_frozen BK362.out 4
                        have hfz31_5 := blk_frozen BK362.out 5
                        have hfz31_6 := blk_frozen BK362.out 6
                        have hfz31_7 := blk_frozen BK362.out 7
                        have hfz31_8 := blk_frozen BK362.out 8
                        have hfz31_9 := blk_frozen BK362.out 9
                        go_wp2
                        repeat (go_quiet (fail); try go_wp2)
                        go_ret
                        exact ⟨by first | rfl | (simp [errW_none, errW_some] <;> rfl) | (simp [*, errW_none, errW_some] <;> rfl), by repeat (first | (with_reducible first | exact HB.out | apply below_alloc | apply pw_below_drewN | apply below_drew1 | refine below_set ?_ GE362.out) | exact HB.out)⟩
                      · rw [if_neg c30] at H
                        have c30b0 : decide (a0_7 < 0) = false := decide_eq_false c30
                        clear c30
                        by_cases c32 : a0_7 > 1099511627776
                        · rw [if_pos c32] at H
                          have c32b0 : decide (1099511627776 < a0_7) = true := decide_eq_true c32
                          clear c32
                          obtain rfl := Option.some.inj H
                          have hcz33_0 : wr.cell? ⟨gb362, 0, none⟩ = some (.int .i64 a0_0) := (blk_cell BK362.out 0).trans rfl
                          have hcz33_1 : wr.cell? ⟨gb362, 1, none⟩ = some (.int .i64 a0_1) := (blk_cell BK362.out 1).trans rfl
                          have hcz33_2 : wr.cell? ⟨gb362, 2, none⟩ = some (.int .i64 a0_2) := (blk_cell BK362.out 2).trans rfl
                          have hcz33_3 : wr.cell? ⟨gb362, 3, none⟩ = some (.int .i64 a0_3) := (blk_cell BK362.out 3).trans rfl
                          have hcz33_4 : wr.cell? ⟨gb362, 4, none⟩ = some (.int .i64 a0_4) := (blk_cell BK362.out 4).trans rfl
                          have hcz33_5 : wr.cell? ⟨gb362, 5, none⟩ = some (.int .i64 a0_5) := (blk_cell BK362.out 5).trans rfl
                          have hcz33_6 : wr.cell? ⟨gb362, 6, none⟩ = some (.int .i64 a0_6) := (blk_cell BK362.out 6).trans rfl
                          have hcz33_7 : wr.cell? ⟨gb362, 7, none⟩ = some (.int .i64 a0_7) := (blk_cell BK362.out 7).trans rfl
                          have hcz33_8 : wr.cell? ⟨gb362, 8, none⟩ = some (.int .i64 a0_8) := (blk_cell BK362.out 8).trans rfl
                          have hcz33_9 : wr.cell? ⟨gb362, 9, none⟩ = some (.int .i64 a0_9) := (blk_cell BK362.out 9).trans rfl
                          have hfz33_0 := blk_frozen BK362.out 0
                          have hfz33_1 := blk_frozen BK362.out 1
                          have hfz33_2 := blk_frozen BK362.out 2
                          have hfz33_3 := blk_frozen BK362.out 3
                          have hfz33_4 := blk_frozen BK362.out 4
                          have hfz33_5 := blk_frozen BK362.out 5
                          have hfz33_6 := blk_frozen BK362.out 6
                          have hfz33_7 := blk_frozen BK362.out 7
                          have hfz33_8 := blk_frozen BK362.out 8
                          have hfz33_9 := blk_frozen BK362.out 9
                          go_wp2
                          repeat (go_quiet (fail); try go_wp2)
                          go_ret
                          exact ⟨by first | rfl | (simp [errW_none, errW_some] <;> rfl) | (simp [*, errW_none, errW_some] <;> rfl), by repeat (first | (with_reducible first | exact HB.out | apply below_alloc | apply pw_below_drewN | apply below_drew1 | refine below_set ?_ GE362.out) | exact HB.out)⟩
                        · rw [if_neg c32] at H
                          have c32b0 : decide (1099511627776 < a0_7) = false := decide_eq_false c32
                          clear c32
                          have H' := Aside0.mk H
                          clear H
                          have hcz34_0 : wr.cell? ⟨gb362, 0, none⟩ = some (.int .i64 a0_0) := (blk_cell BK362.out 0).trans rfl
                          have hcz34_1 : wr.cell? ⟨gb362, 1, none⟩ = some (.int .i64 a0_1) := (blk_cell BK362.out 1).trans rfl
                          have hcz34_2 : wr.cell? ⟨gb362, 2, none⟩ = some (.int .i64 a0_2) := (blk_cell BK362.out 2).trans rfl
                          have hcz34_3 : wr.cell? ⟨gb362, 3, none⟩ = some (.int .i64 a0_3) := (blk_cell BK362.out 3).trans rfl
                          have hcz34_4 : wr.cell? ⟨gb362, 4, none⟩ = some (.int .i64 a0_4) := (blk_cell BK362.out 4).trans rfl
                          have hcz34_5 : wr.cell? ⟨gb362, 5, none⟩ = some (.int .i64 a0_5) := (blk_cell BK362.out 5).trans rfl
                          have hcz34_6 : wr.cell? ⟨gb362, 6, none⟩ = some (.int .i64 a0_6) := (blk_cell BK362.out 6).trans rfl
                          have hcz34_7 : wr.cell? ⟨gb362, 7, none⟩ = some (.int .i64 a0_7) := (blk_cell BK362.out 7).trans rfl
                          have hcz34_8 : wr.cell? ⟨gb362, 8, none⟩ = some (.int .i64 a0_8) := (blk_cell BK362.out 8).trans rfl
                          have hcz34_9 : wr.cell? ⟨gb362, 9, none⟩ = some (.int .i64 a0_9) := (blk_cell BK362.out 9).trans rfl
                          have hfz34_0 := blk_frozen BK362.out 0
                          have hfz34_1 := blk_frozen BK362.out 1
                          have hfz34_2 := blk_frozen BK362.out 2
                          have hfz34_3 := blk_frozen BK362.out 3
                          have hfz34_4 := blk_frozen BK362.out 4
                          have hfz34_5 := blk_frozen BK362.out 5
                          have hfz34_6 := blk_frozen BK362.out 6
                          have hfz34_7 := blk_frozen BK362.out 7
                          have hfz34_8 := blk_frozen BK362.out 8
                          have hfz34_9 := blk_frozen BK362.out 9
                          go_wp2
                          repeat (go_quiet (fail); try go_wp2)
                          go_roundg k2
                          case measure => have := HJ1.out; have := HK2.out; omega
                          case rel => exact ⟨(wrap64 (x3_2 + a0_7)), (wrap64 (3 + 1)), (by first | rfl | (simp; done) | (simp [*]; done) | (simp [wrap64]; done)), (by first | rfl | (simp; done) | (simp [*]; done) | (simp [wrap64]; done)), H', ⟨by have := HJ1.out; have := HK2.out; omega⟩, ⟨by (with_reducible repeat (first | refine blk_drewN ?_ _ | refine blk_drew ?_ | refine blk_alloc ?_ _)); exact BK362.out⟩, ⟨by repeat (first | (with_reducible first | exact HB.out | apply below_alloc | apply pw_below_drewN | apply below_drew1 | refine below_set ?_ GE362.out) | exact HB.out)⟩⟩
                    · rw [if_neg c29] at H
                      exact absurd H (by simp)
            · rw [if_neg c10] at H
              have c10b0 : decide (x4_2 < 4) = false := decide_eq_false c10
              clear c10
              have HC35 := Aside0.mk H
              clear H
              go_upto_region 10 with (fail)
              repeat (go_quiet (fail); go_upto_region 10 with (fail))
              go_cut [67] (fun v67 wc => ∃ (kq : Nat) (x67_34 : Bool), v67 = .bool x67_34 ∧ Aside0 (headgateref15_May.j2 kq x67_34 a0_0 a0_1 a0_2 a0_3 a0_4 a0_5 a0_6 a0_7 a0_8 a0_9 = some r) ∧ Aside0 (kq ≤ k2) ∧ Aside0 (wc.heap[gb362]? = some (.cells #[.int .i64 a0_0, .int .i64 a0_1, .int .i64 a0_2, .int .i64 a0_3, .int .i64 a0_4, .int .i64 a0_5, .int .i64 a0_6, .int .i64 a0_7, .int .i64 a0_8, .int .i64 a0_9] 24 (0, 0))) ∧ Aside0 (Below w.heap.size w wc))
              case first =>
                have H := HC35.out
                clear HC35
                by_cases c36 : x3_2 = a0_0
                · rw [if_pos c36] at H
                  have c36b0 : (x3_2 == a0_0) = true := beq_iff_eq.mpr c36
                  have c36b1 : (x3_2 != a0_0) = false := bne_eq_false_iff_eq.mpr c36
                  clear c36
                  (first | rw [c36b0] | rw [c36b9] | (simp only [i64_w, i32_w]; rw [c36b0]) | skip)
                  by_cases c37 : a0_8 < (-1099511627776)
                  · rw [if_pos c37] at H
                    have c37b0 : decide (a0_8 < (-1099511627776)) = true := decide_eq_true c37
                    clear c37
                    have H' := Aside0.mk H
                    clear H
                    have hcz38_0 : wr.cell? ⟨gb362, 0, none⟩ = some (.int .i64 a0_0) := (blk_cell BK362.out 0).trans rfl
                    have hcz38_1 : wr.cell? ⟨gb362, 1, none⟩ = some (.int .i64 a0_1) := (blk_cell BK362.out 1).trans rfl
                    have hcz38_2 : wr.cell? ⟨gb362, 2, none⟩ = some (.int .i64 a0_2) := (blk_cell BK362.out 2).trans rfl
                    have hcz38_3 : wr.cell? ⟨gb362, 3, none⟩ = some (.int .i64 a0_3) := (blk_cell BK362.out 3).trans rfl
                    have hcz38_4 : wr.cell? ⟨gb362, 4, none⟩ = some (.int .i64 a0_4) := (blk_cell BK362.out 4).trans rfl
                    have hcz38_5 : wr.cell? ⟨gb362, 5, none⟩ = some (.int .i64 a0_5) := (blk_cell BK362.out 5).trans rfl
                    have hcz38_6 : wr.cell? ⟨gb362, 6, none⟩ = some (.int .i64 a0_6) := (blk_cell BK362.out 6).trans rfl
                    have hcz38_7 : wr.cell? ⟨gb362, 7, none⟩ = some (.int .i64 a0_7) := (blk_cell BK362.out 7).trans rfl
                    have hcz38_8 : wr.cell? ⟨gb362, 8, none⟩ = some (.int .i64 a0_8) := (blk_cell BK362.out 8).trans rfl
                    have hcz38_9 : wr.cell? ⟨gb362, 9, none⟩ = some (.int .i64 a0_9) := (blk_cell BK362.out 9).trans rfl
                    have hfz38_0 := blk_frozen BK362.out 0
                    have hfz38_1 := blk_frozen BK362.out 1
                    have hfz38_2 := blk_frozen BK362.out 2
                    have hfz38_3 := blk_frozen BK362.out 3
                    have hfz38_4 := blk_frozen BK362.out 4
                    have hfz38_5 := blk_frozen BK362.out 5
                    have hfz38_6 := blk_frozen BK362.out 6
                    have hfz38_7 := blk_frozen BK362.out 7
                    have hfz38_8 := blk_frozen BK362.out 8
                    have hfz38_9 := blk_frozen BK362.out 9
                    go_wp2
                    repeat (go_quiet (fail); try go_wp2)
                    go_meet
                    case rel => exact ⟨_, (true), (by first | rfl | (simp; done) | (simp [*]; done) | (simp [wrap64]; done)), H', ⟨by have := HJ1.out; have := HK2.out; first | omega | exact Nat.le_refl _⟩, ⟨by (with_reducible repeat (first | refine blk_drewN ?_ _ | refine blk_drew ?_ | refine blk_alloc ?_ _)); exact BK362.out⟩, ⟨by repeat (first | (with_reducible first | exact HB.out | apply below_alloc | apply pw_below_drewN | apply below_drew1 | refine below_set ?_ GE362.out) | exact HB.out)⟩⟩
                  · rw [if_neg c37] at H
                    have c37b0 : decide (a0_8 < (-1099511627776)) = false := decide_eq_false c37
                    clear c37
                    by_cases c39 : a0_8 > 1099511627776
                    · rw [if_pos c39] at H
                      have c39b0 : decide (1099511627776 < a0_8) = true := decide_eq_true c39
                      clear c39
                      have H' := Aside0.mk H
                      clear H
                      have hcz40_0 : wr.cell? ⟨gb362, 0, none⟩ = some (.int .i64 a0_0) := (blk_cell BK362.out 0).trans rfl
                      have hcz40_1 : wr.cell? ⟨gb362, 1, none⟩ = some (.int .i64 a0_1) := (blk_cell BK362.out 1).trans rfl
                      have hcz40_2 : wr.cell? ⟨gb362, 2, none⟩ = some (.int .i64 a0_2) := (blk_cell BK362.out 2).trans rfl
                      have hcz40_3 : wr.cell? ⟨gb362, 3, none⟩ = some (.int .i64 a0_3) := (blk_cell BK362.out 3).trans rfl
                      have hcz40_4 : wr.cell? ⟨gb362, 4, none⟩ = some (.int .i64 a0_4) := (blk_cell BK362.out 4).trans rfl
                      have hcz40_5 : wr.cell? ⟨gb362, 5, none⟩ = some (.int .i64 a0_5) := (blk_cell BK362.out 5).trans rfl
                      have hcz40_6 : wr.cell? ⟨gb362, 6, none⟩ = some (.int .i64 a0_6) := (blk_cell BK362.out 6).trans rfl
                      have hcz40_7 : wr.cell? ⟨gb362, 7, none⟩ = some (.int .i64 a0_7) := (blk_cell BK362.out 7).trans rfl
                      have hcz40_8 : wr.cell? ⟨gb362, 8, none⟩ = some (.int .i64 a0_8) := (blk_cell BK362.out 8).trans rfl
                      have hcz40_9 : wr.cell? ⟨gb362, 9, none⟩ = some (.int .i64 a0_9) := (blk_cell BK362.out 9).trans rfl
                      have hfz40_0 := blk_frozen BK362.out 0
                      have hfz40_1 := blk_frozen BK362.out 1
                      have hfz40_2 := blk_frozen BK362.out 2
                      have hfz40_3 := blk_frozen BK362.out 3
                      have hfz40_4 := blk_frozen BK362.out 4
                      have hfz40_5 := blk_frozen BK362.out 5
                      have hfz40_6 := blk_frozen BK362.out 6
                      have hfz40_7 := blk_frozen BK362.out 7
                      have hfz40_8 := blk_frozen BK362.out 8
                      have hfz40_9 := blk_frozen BK362.out 9
                      go_wp2
                      repeat (go_quiet (fail); try go_wp2)
                      go_meet
                      case rel => exact ⟨_, (true), (by first | rfl | (simp; done) | (simp [*]; done) | (simp [wrap64]; done)), H', ⟨by have := HJ1.out; have := HK2.out; first | omega | exact Nat.le_refl _⟩, ⟨by (with_reducible repeat (first | refine blk_drewN ?_ _ | refine blk_drew ?_ | refine blk_alloc ?_ _)); exact BK362.out⟩, ⟨by repeat (first | (with_reducible first | exact HB.out | apply below_alloc | apply pw_below_drewN | apply below_drew1 | refine below_set ?_ GE362.out) | exact HB.out)⟩⟩
                    · rw [if_neg c39] at H
                      have c39b0 : decide (1099511627776 < a0_8) = false := decide_eq_false c39
                      clear c39
                      by_cases c41 : a0_9 < (-1099511627776)
                      · rw [if_pos c41] at H
                        have c41b0 : decide (a0_9 < (-1099511627776)) = true := decide_eq_true c41
                        clear c41
                        have H' := Aside0.mk H
                        clear H
                        have hcz42_0 : wr.cell? ⟨gb362, 0, none⟩ = some (.int .i64 a0_0) := (blk_cell BK362.out 0).trans rfl
                        have hcz42_1 : wr.cell? ⟨gb362, 1, none⟩ = some (.int .i64 a0_1) := (blk_cell BK362.out 1).trans rfl
                        have hcz42_2 : wr.cell? ⟨gb362, 2, none⟩ = some (.int .i64 a0_2) := (blk_cell BK362.out 2).trans rfl
                        have hcz42_3 : wr.cell? ⟨gb362, 3, none⟩ = some (.int .i64 a0_3) := (blk_cell BK362.out 3).trans rfl
                        have hcz42_4 : wr.cell? ⟨gb362, 4, none⟩ = some (.int .i64 a0_4) := (blk_cell BK362.out 4).trans rfl
                        have hcz42_5 : wr.cell? ⟨gb362, 5, none⟩ = some (.int .i64 a0_5) := (blk_cell BK362.out 5).trans rfl
                        have hcz42_6 : wr.cell? ⟨gb362, 6, none⟩ = some (.int .i64 a0_6) := (blk_cell BK362.out 6).trans rfl
                        have hcz42_7 : wr.cell? ⟨gb362, 7, none⟩ = some (.int .i64 a0_7) := (blk_cell BK362.out 7).trans rfl
                        have hcz42_8 : wr.cell? ⟨gb362, 8, none⟩ = some (.int .i64 a0_8) := (blk_cell BK362.out 8).trans rfl
                        have hcz42_9 : wr.cell? ⟨gb362, 9, none⟩ = some (.int .i64 a0_9) := (blk_cell BK362.out 9).trans rfl
                        have hfz42_0 := blk_frozen BK362.out 0
                        have hfz42_1 := blk_frozen BK362.out 1
                        have hfz42_2 := blk_frozen BK362.out 2
                        have hfz42_3 := blk_frozen BK362.out 3
                        have hfz42_4 := blk_frozen BK362.out 4
                        have hfz42_5 := blk_frozen BK362.out 5
                        have hfz42_6 := blk_frozen BK362.out 6
                        have hfz42_7 := blk_frozen BK362.out 7
                        have hfz42_8 := blk_frozen BK362.out 8
                        have hfz42_9 := blk_frozen BK362.out 9
                        go_wp2
                        repeat (go_quiet (fail); try go_wp2)
                        go_meet
                        case rel => exact ⟨_, (true), (by first | rfl | (simp; done) | (simp [*]; done) | (simp [wrap64]; done)), H', ⟨by have := HJ1.out; have := HK2.out; first | omega | exact Nat.le_refl _⟩, ⟨by (with_reducible repeat (first | refine blk_drewN ?_ _ | refine blk_drew ?_ | refine blk_alloc ?_ _)); exact BK362.out⟩, ⟨by repeat (first | (with_reducible first | exact HB.out | apply below_alloc | apply pw_below_drewN | apply below_drew1 | refine below_set ?_ GE362.out) | exact HB.out)⟩⟩
                      · rw [if_neg c41] at H
                        have c41b0 : decide (a0_9 < (-1099511627776)) = false := decide_eq_false c41
                        clear c41
                        have H' := Aside0.mk H
                        clear H
                        have hcz43_0 : wr.cell? ⟨gb362, 0, none⟩ = some (.int .i64 a0_0) := (blk_cell BK362.out 0).trans rfl
                        have hcz43_1 : wr.cell? ⟨gb362, 1, none⟩ = some (.int .i64 a0_1) := (blk_cell BK362.out 1).trans rfl
                        have hcz43_2 : wr.cell? ⟨gb362, 2, none⟩ = some (.int .i64 a0_2) := (blk_cell BK362.out 2).trans rfl
                        have hcz43_3 : wr.cell? ⟨gb362, 3, none⟩ = some (.int .i64 a0_3) := (blk_cell BK362.out 3).trans rfl
                        have hcz43_4 : wr.cell? ⟨gb362, 4, none⟩ = some (.int .i64 a0_4) := (blk_cell BK362.out 4).trans rfl
                        have hcz43_5 : wr.cell? ⟨gb362, 5, none⟩ = some (.int .i64 a0_5) := (blk_cell BK362.out 5).trans rfl
                        have hcz43_6 : wr.cell? ⟨gb362, 6, none⟩ = some (.int .i64 a0_6) := (blk_cell BK362.out 6).trans rfl
                        have hcz43_7 : wr.cell? ⟨gb362, 7, none⟩ = some (.int .i64 a0_7) := (blk_cell BK362.out 7).trans rfl
                        have hcz43_8 : wr.cell? ⟨gb362, 8, none⟩ = some (.int .i64 a0_8) := (blk_cell BK362.out 8).trans rfl
                        have hcz43_9 : wr.cell? ⟨gb362, 9, none⟩ = some (.int .i64 a0_9) := (blk_cell BK362.out 9).trans rfl
                        have hfz43_0 := blk_frozen BK362.out 0
                        have hfz43_1 := blk_frozen BK362.out 1
                        have hfz43_2 := blk_frozen BK362.out 2
                        have hfz43_3 := blk_frozen BK362.out 3
                        have hfz43_4 := blk_frozen BK362.out 4
                        have hfz43_5 := blk_frozen BK362.out 5
                        have hfz43_6 := blk_frozen BK362.out 6
                        have hfz43_7 := blk_frozen BK362.out 7
                        have hfz43_8 := blk_frozen BK362.out 8
                        have hfz43_9 := blk_frozen BK362.out 9
                        go_wp2
                        repeat (go_quiet (fail); try go_wp2)
                        go_meet
                        case rel => exact ⟨_, (decide (a0_9 > 1099511627776)), (by first | rfl | (simp; done) | (simp [*]; done) | (simp [wrap64]; done)), H', ⟨by have := HJ1.out; have := HK2.out; first | omega | exact Nat.le_refl _⟩, ⟨by (with_reducible repeat (first | refine blk_drewN ?_ _ | refine blk_drew ?_ | refine blk_alloc ?_ _)); exact BK362.out⟩, ⟨by repeat (first | (with_reducible first | exact HB.out | apply below_alloc | apply pw_below_drewN | apply below_drew1 | refine below_set ?_ GE362.out) | exact HB.out)⟩⟩
                · rw [if_neg c36] at H
                  have c36b0 : (x3_2 == a0_0) = false := beq_eq_false_iff_ne.mpr c36
                  have c36b1 : (x3_2 != a0_0) = true := bne_iff_ne.mpr c36
                  (first | rw [c36b0] | rw [c36b9] | (simp only [i64_w, i32_w]; rw [c36b0]) | skip)
                  have H' := Aside0.mk H
                  clear H
                  have hcz44_0 : wr.cell? ⟨gb362, 0, none⟩ = some (.int .i64 a0_0) := (blk_cell BK362.out 0).trans rfl
                  have hcz44_1 : wr.cell? ⟨gb362, 1, none⟩ = some (.int .i64 a0_1) := (blk_cell BK362.out 1).trans rfl
                  have hcz44_2 : wr.cell? ⟨gb362, 2, none⟩ = some (.int .i64 a0_2) := (blk_cell BK362.out 2).trans rfl
                  have hcz44_3 : wr.cell? ⟨gb362, 3, none⟩ = some (.int .i64 a0_3) := (blk_cell BK362.out 3).trans rfl
                  have hcz44_4 : wr.cell? ⟨gb362, 4, none⟩ = some (.int .i64 a0_4) := (blk_cell BK362.out 4).trans rfl
                  have hcz44_5 : wr.cell? ⟨gb362, 5, none⟩ = some (.int .i64 a0_5) := (blk_cell BK362.out 5).trans rfl
                  have hcz44_6 : wr.cell? ⟨gb362, 6, none⟩ = some (.int .i64 a0_6) := (blk_cell BK362.out 6).trans rfl
                  have hcz44_7 : wr.cell? ⟨gb362, 7, none⟩ = some (.int .i64 a0_7) := (blk_cell BK362.out 7).trans rfl
                  have hcz44_8 : wr.cell? ⟨gb362, 8, none⟩ = some (.int .i64 a0_8) := (blk_cell BK362.out 8).trans rfl
                  have hcz44_9 : wr.cell? ⟨gb362, 9, none⟩ = some (.int .i64 a0_9) := (blk_cell BK362.out 9).trans rfl
                  have hfz44_0 := blk_frozen BK362.out 0
                  have hfz44_1 := blk_frozen BK362.out 1
                  have hfz44_2 := blk_frozen BK362.out 2
                  have hfz44_3 := blk_frozen BK362.out 3
                  have hfz44_4 := blk_frozen BK362.out 4
                  have hfz44_5 := blk_frozen BK362.out 5
                  have hfz44_6 := blk_frozen BK362.out 6
                  have hfz44_7 := blk_frozen BK362.out 7
                  have hfz44_8 := blk_frozen BK362.out 8
                  have hfz44_9 := blk_frozen BK362.out 9
                  go_wp2
                  repeat (go_quiet (fail); try go_wp2)
                  go_meet
                  case rel => exact ⟨_, (true), (by first | rfl | (simp; done) | (simp [*]; done) | (simp [wrap64]; done)), H', ⟨by have := HJ1.out; have := HK2.out; first | omega | exact Nat.le_refl _⟩, ⟨by (with_reducible repeat (first | refine blk_drewN ?_ _ | refine blk_drew ?_ | refine blk_alloc ?_ _)); exact BK362.out⟩, ⟨by repeat (first | (with_reducible first | exact HB.out | apply below_alloc | apply pw_below_drewN | apply below_drew1 | refine below_set ?_ GE362.out) | exact HB.out)⟩⟩
              case rest =>
                clear HC35
                try clear c1
                try clear c2
                try clear p2
                try clear c3
                try clear c4
                try clear p6
                try clear c10
                try clear c10b0
                try clear c11
                try clear c12
                try clear c12b0
                try clear c14
                try clear c14b0
                try clear c17
                try clear c18
                try clear c18b0
                try clear c20
                try clear c20b0
                try clear c23
                try clear c24
                try clear c24b0
                try clear c26
                try clear c26b0
                try clear c29
                try clear c30
                try clear c30b0
                try clear c32
                try clear c32b0
                try clear c36
                try clear c36b0
                try clear c36b1
                try clear c37
                try clear c37b0
                try clear c39
                try clear c39b0
                try clear c41
                try clear c41b0
                try clear hcz13_0
                try clear hcz13_1
                try clear hcz13_2
                try clear hcz13_3
                try clear hcz13_4
                try clear hcz13_5
                try clear hcz13_6
                try clear hcz13_7
                try clear hcz13_8
                try clear hcz13_9
                try clear hcz15_0
                try clear hcz15_1
                try clear hcz15_2
                try clear hcz15_3
                try clear hcz15_4
                try clear hcz15_5
                try clear hcz15_6
                try clear hcz15_7
                try clear hcz15_8
                try clear hcz15_9
                try clear hcz16_0
                try clear hcz16_1
                try clear hcz16_2
                try clear hcz16_3
                try clear hcz16_4
                try clear hcz16_5
                try clear hcz16_6
                try clear hcz16_7
                try clear hcz16_8
                try clear hcz16_9
                try clear hcz19_0
                try clear hcz19_1
                try clear hcz19_2
                try clear hcz19_3
                try clear hcz19_4
                try clear hcz19_5
                try clear hcz19_6
                try clear hcz19_7
                try clear hcz19_8
                try clear hcz19_9
                try clear hcz21_0
                try clear hcz21_1
                try clear hcz21_2
                try clear hcz21_3
                try clear hcz21_4
                try clear hcz21_5
                try clear hcz21_6
                try clear hcz21_7
                try clear hcz21_8
                try clear hcz21_9
                try clear hcz22_0
                try clear hcz22_1
                try clear hcz22_2
                try clear hcz22_3
                try clear hcz22_4
                try clear hcz22_5
                try clear hcz22_6
                try clear hcz22_7
                try clear hcz22_8
                try clear hcz22_9
                try clear hcz25_0
                try clear hcz25_1
                try clear hcz25_2
                try clear hcz25_3
                try clear hcz25_4
                try clear hcz25_5
                try clear hcz25_6
                try clear hcz25_7
                try clear hcz25_8
                try clear hcz25_9
                try clear hcz27_0
                try clear hcz27_1
                try clear hcz27_2
                try clear hcz27_3
                try clear hcz27_4
                try clear hcz27_5
                try clear hcz27_6
                try clear hcz27_7
                try clear hcz27_8
                try clear hcz27_9
                try clear hcz28_0
                try clear hcz28_1
                try clear hcz28_2
                try clear hcz28_3
                try clear hcz28_4
                try clear hcz28_5
                try clear hcz28_6
                try clear hcz28_7
                try clear hcz28_8
                try clear hcz28_9
                try clear hcz31_0
                try clear hcz31_1
                try clear hcz31_2
                try clear hcz31_3
                try clear hcz31_4
                try clear hcz31_5
                try clear hcz31_6
                try clear hcz31_7
                try clear hcz31_8
                try clear hcz31_9
                try clear hcz33_0
                try clear hcz33_1
                try clear hcz33_2
                try clear hcz33_3
                try clear hcz33_4
                try clear hcz33_5
                try clear hcz33_6
                try clear hcz33_7
                try clear hcz33_8
                try clear hcz33_9
                try clear hcz34_0
                try clear hcz34_1
                try clear hcz34_2
                try clear hcz34_3
                try clear hcz34_4
                try clear hcz34_5
                try clear hcz34_6
                try clear hcz34_7
                try clear hcz34_8
                try clear hcz34_9
                try clear hcz38_0
                try clear hcz38_1
                try clear hcz38_2
                try clear hcz38_3
                try clear hcz38_4
                try clear hcz38_5
                try clear hcz38_6
                try clear hcz38_7
                try clear hcz38_8
                try clear hcz38_9
                try clear hcz40_0
                try clear hcz40_1
                try clear hcz40_2
                try clear hcz40_3
                try clear hcz40_4
                try clear hcz40_5
                try clear hcz40_6
                try clear hcz40_7
                try clear hcz40_8
                try clear hcz40_9
                try clear hcz42_0
                try clear hcz42_1
                try clear hcz42_2
                try clear hcz42_3
                try clear hcz42_4
                try clear hcz42_5
                try clear hcz42_6
                try clear hcz42_7
                try clear hcz42_8
                try clear hcz42_9
                try clear hcz43_0
                try clear hcz43_1
                try clear hcz43_2
                try clear hcz43_3
                try clear hcz43_4
                try clear hcz43_5
                try clear hcz43_6
                try clear hcz43_7
                try clear hcz43_8
                try clear hcz43_9
                try clear hcz44_0
                try clear hcz44_1
                try clear hcz44_2
                try clear hcz44_3
                try clear hcz44_4
                try clear hcz44_5
                try clear hcz44_6
                try clear hcz44_7
                try clear hcz44_8
                try clear hcz44_9
                try clear hfz13_0
                try clear hfz13_1
                try clear hfz13_2
                try clear hfz13_3
                try clear hfz13_4
                try clear hfz13_5
                try clear hfz13_6
                try clear hfz13_7
                try clear hfz13_8
                try clear hfz13_9
                try clear hfz15_0
                try clear hfz15_1
                try clear hfz15_2
                try clear hfz15_3
                try clear hfz15_4
                try clear hfz15_5
                try clear hfz15_6
                try clear hfz15_7
                try clear hfz15_8
                try clear hfz15_9
                try clear hfz16_0
                try clear hfz16_1
                try clear hfz16_2
                try clear hfz16_3
                try clear hfz16_4
                try clear hfz16_5
                try clear hfz16_6
                try clear hfz16_7
                try clear hfz16_8
                try clear hfz16_9
                try clear hfz19_0
                try clear hfz19_1
                try clear hfz19_2
                try clear hfz19_3
                try clear hfz19_4
                try clear hfz19_5
                try clear hfz19_6
                try clear hfz19_7
                try clear hfz19_8
                try clear hfz19_9
                try clear hfz21_0
                try clear hfz21_1
                try clear hfz21_2
                try clear hfz21_3
                try clear hfz21_4
                try clear hfz21_5
                try clear hfz21_6
                try clear hfz21_7
                try clear hfz21_8
                try clear hfz21_9
                try clear hfz22_0
                try clear hfz22_1
                try clear hfz22_2
                try clear hfz22_3
                try clear hfz22_4
                try clear hfz22_5
                try clear hfz22_6
                try clear hfz22_7
                try clear hfz22_8
                try clear hfz22_9
                try clear hfz25_0
                try clear hfz25_1
                try clear hfz25_2
                try clear hfz25_3
                try clear hfz25_4
                try clear hfz25_5
                try clear hfz25_6
                try clear hfz25_7
                try clear hfz25_8
                try clear hfz25_9
                try clear hfz27_0
                try clear hfz27_1
                try clear hfz27_2
                try clear hfz27_3
                try clear hfz27_4
                try clear hfz27_5
                try clear hfz27_6
                try clear hfz27_7
                try clear hfz27_8
                try clear hfz27_9
                try clear hfz28_0
                try clear hfz28_1
                try clear hfz28_2
                try clear hfz28_3
                try clear hfz28_4
                try clear hfz28_5
                try clear hfz28_6
                try clear hfz28_7
                try clear hfz28_8
                try clear hfz28_9
                try clear hfz31_0
                try clear hfz31_1
                try clear hfz31_2
                try clear hfz31_3
                try clear hfz31_4
                try clear hfz31_5
                try clear hfz31_6
                try clear hfz31_7
                try clear hfz31_8
                try clear hfz31_9
                try clear hfz33_0
                try clear hfz33_1
                try clear hfz33_2
                try clear hfz33_3
                try clear hfz33_4
                try clear hfz33_5
                try clear hfz33_6
                try clear hfz33_7
                try clear hfz33_8
                try clear hfz33_9
                try clear hfz34_0
                try clear hfz34_1
                try clear hfz34_2
                try clear hfz34_3
                try clear hfz34_4
                try clear hfz34_5
                try clear hfz34_6
                try clear hfz34_7
                try clear hfz34_8
                try clear hfz34_9
                try clear hfz38_0
                try clear hfz38_1
                try clear hfz38_2
                try clear hfz38_3
                try clear hfz38_4
                try clear hfz38_5
                try clear hfz38_6
                try clear hfz38_7
                try clear hfz38_8
                try clear hfz38_9
                try clear hfz40_0
                try clear hfz40_1
                try clear hfz40_2
                try clear hfz40_3
                try clear hfz40_4
                try clear hfz40_5
                try clear hfz40_6
                try clear hfz40_7
                try clear hfz40_8
                try clear hfz40_9
                try clear hfz42_0
                try clear hfz42_1
                try clear hfz42_2
                try clear hfz42_3
                try clear hfz42_4
                try clear hfz42_5
                try clear hfz42_6
                try clear hfz42_7
                try clear hfz42_8
                try clear hfz42_9
                try clear hfz43_0
                try clear hfz43_1
                try clear hfz43_2
                try clear hfz43_3
                try clear hfz43_4
                try clear hfz43_5
                try clear hfz43_6
                try clear hfz43_7
                try clear hfz43_8
                try clear hfz43_9
                try clear hfz44_0
                try clear hfz44_1
                try clear hfz44_2
                try clear hfz44_3
                try clear hfz44_4
                try clear hfz44_5
                try clear hfz44_6
                try clear hfz44_7
                try clear hfz44_8
                try clear hfz44_9
                try clear hfz7_5
                try clear hfz7_6
                try clear hfz7_7
                try clear hfz7_8
                try clear hfz7_9
                try clear hfz8_0
                try clear hfz8_1
                try clear hfz8_2
                try clear hfz8_3
                try clear hfz8_4
                try clear hfz8_5
                try clear hfz8_6
                try clear hfz8_7
                try clear hfz8_8
                try clear hfz8_9
                try clear p2
                obtain ⟨kq, x67_34, rfl, HA, HJ34, BK362, HB⟩ := hcut
                cases kq with
                | zero => exact absurd HA.out (by simp [headgateref15_May.j2])
                | succ kj34 =>
                  have H := HA.out
                  clear HA
                  simp only [headgateref15_May.j2] at H
                  by_cases c45 : x67_34 = true
                  · subst c45
                    have H1 : (some false) = some r := by rw [if_pos rfl] at H; exact H
                    clear H
                    have H := H1
                    clear H1
                    obtain rfl := Option.some.inj H
                    go_wp2
                    repeat (go_quiet (fail); try go_wp2)
                    go_ret
                    exact ⟨by first | rfl | (simp [errW_none, errW_some] <;> rfl) | (simp [*, errW_none, errW_some] <;> rfl), by repeat (first | (with_reducible first | exact HB.out | apply below_alloc | apply pw_below_drewN | apply below_drew1 | refine below_set ?_ GE362.out) | exact HB.out)⟩
                  · replace c45 := Bool.eq_false_iff.mpr c45
                    subst c45
                    have H1 : (if a0_8 < 0 then (if a0_9 < 0 then (some (decide ((wrap64 ((wrap64 (-a0_8)) + (wrap64 (-a0_9)))) ≤ a0_0))) else (some (decide ((wrap64 ((wrap64 (-a0_8)) + a0_9)) ≤ a0_0)))) else (if a0_9 < 0 then (some (decide ((wrap64 (a0_8 + (wrap64 (-a0_9)))) ≤ a0_0))) else (some (decide ((wrap64 (a0_8 + a0_9)) ≤ a0_0))))) = some r := by rw [if_neg (show ¬ (false = true) by decide)] at H; exact H
                    clear H
                    have H := H1
                    clear H1
                    by_cases c46 : a0_8 < 0
                    · rw [if_pos c46] at H
                      have c46b0 : decide (a0_8 < 0) = true := decide_eq_true c46
                      clear c46
                      by_cases c47 : a0_9 < 0
                      · rw [if_pos c47] at H
                        have c47b0 : decide (a0_9 < 0) = true := decide_eq_true c47
                        clear c47
                        obtain rfl := Option.some.inj H
                        have hcz48_0 : wc.cell? ⟨gb362, 0, none⟩ = some (.int .i64 a0_0) := (blk_cell BK362.out 0).trans rfl
                        have hcz48_1 : wc.cell? ⟨gb362, 1, none⟩ = some (.int .i64 a0_1) := (blk_cell BK362.out 1).trans rfl
                        have hcz48_2 : wc.cell? ⟨gb362, 2, none⟩ = some (.int .i64 a0_2) := (blk_cell BK362.out 2).trans rfl
                        have hcz48_3 : wc.cell? ⟨gb362, 3, none⟩ = some (.int .i64 a0_3) := (blk_cell BK362.out 3).trans rfl
                        have hcz48_4 : wc.cell? ⟨gb362, 4, none⟩ = some (.int .i64 a0_4) := (blk_cell BK362.out 4).trans rfl
                        have hcz48_5 : wc.cell? ⟨gb362, 5, none⟩ = some (.int .i64 a0_5) := (blk_cell BK362.out 5).trans rfl
                        have hcz48_6 : wc.cell? ⟨gb362, 6, none⟩ = some (.int .i64 a0_6) := (blk_cell BK362.out 6).trans rfl
                        have hcz48_7 : wc.cell? ⟨gb362, 7, none⟩ = some (.int .i64 a0_7) := (blk_cell BK362.out 7).trans rfl
                        have hcz48_8 : wc.cell? ⟨gb362, 8, none⟩ = some (.int .i64 a0_8) := (blk_cell BK362.out 8).trans rfl
                        have hcz48_9 : wc.cell? ⟨gb362, 9, none⟩ = some (.int .i64 a0_9) := (blk_cell BK362.out 9).trans rfl
                        have hfz48_0 := blk_frozen BK362.out 0
                        have hfz48_1 := blk_frozen BK362.out 1
                        have hfz48_2 := blk_frozen BK362.out 2
                        have hfz48_3 := blk_frozen BK362.out 3
                        have hfz48_4 := blk_frozen BK362.out 4
                        have hfz48_5 := blk_frozen BK362.out 5
                        have hfz48_6 := blk_frozen BK362.out 6
                        have hfz48_7 := blk_frozen BK362.out 7
                        have hfz48_8 := blk_frozen BK362.out 8
                        have hfz48_9 := blk_frozen BK362.out 9
                        go_wp2
                        repeat (go_quiet (fail); try go_wp2)
                        go_ret
                        exact ⟨by first | rfl | (simp [errW_none, errW_some] <;> rfl) | (simp [*, errW_none, errW_some] <;> rfl), by repeat (first | (with_reducible first | exact HB.out | apply below_alloc | apply pw_below_drewN | apply below_drew1 | refine below_set ?_ GE362.out) | exact HB.out)⟩
                      · rw [if_neg c47] at H
                        have c47b0 : decide (a0_9 < 0) = false := decide_eq_false c47
                        clear c47
                        obtain rfl := Option.some.inj H
                        have hcz49_0 : wc.cell? ⟨gb362, 0, none⟩ = some (.int .i64 a0_0) := (blk_cell BK362.out 0).trans rfl
                        have hcz49_1 : wc.cell? ⟨gb362, 1, none⟩ = some (.int .i64 a0_1) := (blk_cell BK362.out 1).trans rfl
                        have hcz49_2 : wc.cell? ⟨gb362, 2, none⟩ = some (.int .i64 a0_2) := (blk_cell BK362.out 2).trans rfl
                        have hcz49_3 : wc.cell? ⟨gb362, 3, none⟩ = some (.int .i64 a0_3) := (blk_cell BK362.out 3).trans rfl
                        have hcz49_4 : wc.cell? ⟨gb362, 4, none⟩ = some (.int .i64 a0_4) := (blk_cell BK362.out 4).trans rfl
                        have hcz49_5 : wc.cell? ⟨gb362, 5, none⟩ = some (.int .i64 a0_5) := (blk_cell BK362.out 5).trans rfl
                        have hcz49_6 : wc.cell? ⟨gb362, 6, none⟩ = some (.int .i64 a0_6) := (blk_cell BK362.out 6).trans rfl
                        have hcz49_7 : wc.cell? ⟨gb362, 7, none⟩ = some (.int .i64 a0_7) := (blk_cell BK362.out 7).trans rfl
                        have hcz49_8 : wc.cell? ⟨gb362, 8, none⟩ = some (.int .i64 a0_8) := (blk_cell BK362.out 8).trans rfl
                        have hcz49_9 : wc.cell? ⟨gb362, 9, none⟩ = some (.int .i64 a0_9) := (blk_cell BK362.out 9).trans rfl
                        have hfz49_0 := blk_frozen BK362.out 0
                        have hfz49_1 := blk_frozen BK362.out 1
                        have hfz49_2 := blk_frozen BK362.out 2
                        have hfz49_3 := blk_frozen BK362.out 3
                        have hfz49_4 := blk_frozen BK362.out 4
                        have hfz49_5 := blk_frozen BK362.out 5
                        have hfz49_6 := blk_frozen BK362.out 6
                        have hfz49_7 := blk_frozen BK362.out 7
                        have hfz49_8 := blk_frozen BK362.out 8
                        have hfz49_9 := blk_frozen BK362.out 9
                        go_wp2
                        repeat (go_quiet (fail); try go_wp2)
                        go_ret
                        exact ⟨by first | rfl | (simp [errW_none, errW_some] <;> rfl) | (simp [*, errW_none, errW_some] <;> rfl), by repeat (first | (with_reducible first | exact HB.out | apply below_alloc | apply pw_below_drewN | apply below_drew1 | refine below_set ?_ GE362.out) | exact HB.out)⟩
                    · rw [if_neg c46] at H
                      have c46b0 : decide (a0_8 < 0) = false := decide_eq_false c46
                      clear c46
                      by_cases c50 : a0_9 < 0
                      · rw [if_pos c50] at H
                        have c50b0 : decide (a0_9 < 0) = true := decide_eq_true c50
                        clear c50
                        obtain rfl := Option.some.inj H
                        have hcz51_0 : wc.cell? ⟨gb362, 0, none⟩ = some (.int .i64 a0_0) := (blk_cell BK362.out 0).trans rfl
                        have hcz51_1 : wc.cell? ⟨gb362, 1, none⟩ = some (.int .i64 a0_1) := (blk_cell BK362.out 1).trans rfl
                        have hcz51_2 : wc.cell? ⟨gb362, 2, none⟩ = some (.int .i64 a0_2) := (blk_cell BK362.out 2).trans rfl
                        have hcz51_3 : wc.cell? ⟨gb362, 3, none⟩ = some (.int .i64 a0_3) := (blk_cell BK362.out 3).trans rfl
                        have hcz51_4 : wc.cell? ⟨gb362, 4, none⟩ = some (.int .i64 a0_4) := (blk_cell BK362.out 4).trans rfl
                        have hcz51_5 : wc.cell? ⟨gb362, 5, none⟩ = some (.int .i64 a0_5) := (blk_cell BK362.out 5).trans rfl
                        have hcz51_6 : wc.cell? ⟨gb362, 6, none⟩ = some (.int .i64 a0_6) := (blk_cell BK362.out 6).trans rfl
                        have hcz51_7 : wc.cell? ⟨gb362, 7, none⟩ = some (.int .i64 a0_7) := (blk_cell BK362.out 7).trans rfl
                        have hcz51_8 : wc.cell? ⟨gb362, 8, none⟩ = some (.int .i64 a0_8) := (blk_cell BK362.out 8).trans rfl
                        have hcz51_9 : wc.cell? ⟨gb362, 9, none⟩ = some (.int .i64 a0_9) := (blk_cell BK362.out 9).trans rfl
                        have hfz51_0 := blk_frozen BK362.out 0
                        have hfz51_1 := blk_frozen BK362.out 1
                        have hfz51_2 := blk_frozen BK362.out 2
                        have hfz51_3 := blk_frozen BK362.out 3
                        have hfz51_4 := blk_frozen BK362.out 4
                        have hfz51_5 := blk_frozen BK362.out 5
                        have hfz51_6 := blk_frozen BK362.out 6
                        have hfz51_7 := blk_frozen BK362.out 7
                        have hfz51_8 := blk_frozen BK362.out 8
                        have hfz51_9 := blk_frozen BK362.out 9
                        go_wp2
                        repeat (go_quiet (fail); try go_wp2)
                        go_ret
                        exact ⟨by first | rfl | (simp [errW_none, errW_some] <;> rfl) | (simp [*, errW_none, errW_some] <;> rfl), by repeat (first | (with_reducible first | exact HB.out | apply below_alloc | apply pw_below_drewN | apply below_drew1 | refine below_set ?_ GE362.out) | exact HB.out)⟩
                      · rw [if_neg c50] at H
                        have c50b0 : decide (a0_9 < 0) = false := decide_eq_false c50
                        clear c50
                        obtain rfl := Option.some.inj H
                        have hcz52_0 : wc.cell? ⟨gb362, 0, none⟩ = some (.int .i64 a0_0) := (blk_cell BK362.out 0).trans rfl
                        have hcz52_1 : wc.cell? ⟨gb362, 1, none⟩ = some (.int .i64 a0_1) := (blk_cell BK362.out 1).trans rfl
                        have hcz52_2 : wc.cell? ⟨gb362, 2, none⟩ = some (.int .i64 a0_2) := (blk_cell BK362.out 2).trans rfl
                        have hcz52_3 : wc.cell? ⟨gb362, 3, none⟩ = some (.int .i64 a0_3) := (blk_cell BK362.out 3).trans rfl
                        have hcz52_4 : wc.cell? ⟨gb362, 4, none⟩ = some (.int .i64 a0_4) := (blk_cell BK362.out 4).trans rfl
                        have hcz52_5 : wc.cell? ⟨gb362, 5, none⟩ = some (.int .i64 a0_5) := (blk_cell BK362.out 5).trans rfl
                        have hcz52_6 : wc.cell? ⟨gb362, 6, none⟩ = some (.int .i64 a0_6) := (blk_cell BK362.out 6).trans rfl
                        have hcz52_7 : wc.cell? ⟨gb362, 7, none⟩ = some (.int .i64 a0_7) := (blk_cell BK362.out 7).trans rfl
                        have hcz52_8 : wc.cell? ⟨gb362, 8, none⟩ = some (.int .i64 a0_8) := (blk_cell BK362.out 8).trans rfl
                        have hcz52_9 : wc.cell? ⟨gb362, 9, none⟩ = some (.int .i64 a0_9) := (blk_cell BK362.out 9).trans rfl
                        have hfz52_0 := blk_frozen BK362.out 0
                        have hfz52_1 := blk_frozen BK362.out 1
                        have hfz52_2 := blk_frozen BK362.out 2
                        have hfz52_3 := blk_frozen BK362.out 3
                        have hfz52_4 := blk_frozen BK362.out 4
                        have hfz52_5 := blk_frozen BK362.out 5
                        have hfz52_6 := blk_frozen BK362.out 6
                        have hfz52_7 := blk_frozen BK362.out 7
                        have hfz52_8 := blk_frozen BK362.out 8
                        have hfz52_9 := blk_frozen BK362.out 9
                        go_wp2
                        repeat (go_quiet (fail); try go_wp2)
                        go_ret
                        exact ⟨by first | rfl | (simp [errW_none, errW_some] <;> rfl) | (simp [*, errW_none, errW_some] <;> rfl), by repeat (first | (with_reducible first | exact HB.out | apply below_alloc | apply pw_below_drewN | apply below_drew1 | refine below_set ?_ GE362.out) | exact HB.out)⟩

end Go.Proofs.Ytpffggpedogifaa.P
