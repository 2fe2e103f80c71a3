-- Written by wip/mk.py of this repo: the kit's print program, with contracts of our own among its functions.
import Derived.Test.YtpffggpedogifaaPx0
import Derived.Test.YtpffggpedogifaaPx18
import Derived.Test.YtpffggpedogifaaPx23
namespace Go.Proofs.Ytpffggpedogifaa.P
open Go.RowKit Go.Proofs.YtpffggpedogifaaW.PrintWords Go.Proofs.YtpffggpedogifaaW.PrintLast Go.Proofs.YtpffggpedogifaaW.PrintMore
attribute [local go_sem] max2_int min2_int max_two min_two max_three min_three max_four min_four   -- for this text's walks alone
set_option linter.unusedVariables false
set_option linter.unusedSimpArgs false

/-! ### headgateref15_Decode: function 21 -/
theorem headgateref15_Decode.far10 {W : World} {g : Nat} {a : Addr} {x : Option Value} (h : a.block ≠ g) {o0 o1 o2 o3 o4 o5 o6 o7 o8 o9 : Nat} {v0 v1 v2 v3 v4 v5 v6 v7 v8 v9 : Value} (e : W.cell? a = x) : ((((((((((W.setCell ⟨g, o0, none⟩ v0).setCell ⟨g, o1, none⟩ v1).setCell ⟨g, o2, none⟩ v2).setCell ⟨g, o3, none⟩ v3).setCell ⟨g, o4, none⟩ v4).setCell ⟨g, o5, none⟩ v5).setCell ⟨g, o6, none⟩ v6).setCell ⟨g, o7, none⟩ v7).setCell ⟨g, o8, none⟩ v8).setCell ⟨g, o9, none⟩ v9).cell? a = x := ((cell_far (p := ⟨g, o9, none⟩) h v9).trans ((cell_far (p := ⟨g, o8, none⟩) h v8).trans ((cell_far (p := ⟨g, o7, none⟩) h v7).trans ((cell_far (p := ⟨g, o6, none⟩) h v6).trans ((cell_far (p := ⟨g, o5, none⟩) h v5).trans ((cell_far (p := ⟨g, o4, none⟩) h v4).trans ((cell_far (p := ⟨g, o3, none⟩) h v3).trans ((cell_far (p := ⟨g, o2, none⟩) h v2).trans ((cell_far (p := ⟨g, o1, none⟩) h v1).trans ((cell_far (p := ⟨g, o0, none⟩) h v0).trans e))))))))))
mutual
def headgateref15_Decode.j0 : Nat → List Int → Bool → Option (Int × Int × Int × Int × Int × Int × Int × Int × Int × Int × Int)
  | 0, _, _ => none
  | k + 1, x4, x21 => if x21 = true then (some (0, 0, 0, 0, 0, 0, 0, 0, 0, 0, 2)) else (if 0 < (x4.length : Int) then (if 1 < (x4.length : Int) then (if 2 < (x4.length : Int) then (if 3 < (x4.length : Int) then (if 8 < (x4.length : Int) then (if 9 < (x4.length : Int) then (headgateref15_Decode.l0 k x4 0 (rd x4 0) (rd x4 1) (rd x4 2) (rd x4 3) 0 0 0 0 (rd x4 8) (rd x4 9)) else (none)) else (none)) else (none)) else (none)) else (none)) else (none))
def headgateref15_Decode.l0 : Nat → List Int → Int → Int → Int → Int → Int → Int → Int → Int → Int → Int → Int → Option (Int × Int × Int × Int × Int × Int × Int × Int × Int × Int × Int)
  | 0, _, _, _, _, _, _, _, _, _, _, _, _ => none
  | k + 1, x4, x8, x426000, x426001, x426002, x426003, x426004, x426005, x426006, x426007, x426008, x426009 => if x8 < 4 then (if 0 ≤ (wrap64 (4 + x8)) then (if (wrap64 (4 + x8)) < (x4.length : Int) then (if x8 = 0 then (headgateref15_Decode.l0 k x4 (wrap64 (x8 + 1)) x426000 x426001 x426002 x426003 (rd x4 (wrap64 (4 + x8))) x426005 x426006 x426007 x426008 x426009) else (if x8 = 1 then (headgateref15_Decode.l0 k x4 (wrap64 (x8 + 1)) x426000 x426001 x426002 x426003 x426004 (rd x4 (wrap64 (4 + x8))) x426006 x426007 x426008 x426009) else (if x8 = 2 then (headgateref15_Decode.l0 k x4 (wrap64 (x8 + 1)) x426000 x426001 x426002 x426003 x426004 x426005 (rd x4 (wrap64 (4 + x8))) x426007 x426008 x426009) else (if x8 = 3 then (headgateref15_Decode.l0 k x4 (wrap64 (x8 + 1)) x426000 x426001 x426002 x426003 x426004 x426005 x426006 (rd x4 (wrap64 (4 + x8))) x426008 x426009) else (none))))) else (none)) else (none)) else ((headgateref15_May.f k x426000 x426001 x426002 x426003 x426004 x426005 x426006 x426007 x426008 x426009).bind fun t427 => (if t427 = true then (some (x426000, x426001, x426002, x426003, x426004, x426005, x426006, x426007, x426008, x426009, 0)) else (some (0, 0, 0, 0, 0, 0, 0, 0, 0, 0, 2))))
end
def headgateref15_Decode.f (k : Nat) (a0 : ByteArray) : Option (Int × Int × Int × Int × Int × Int × Int × Int × Int × Int × Int) := (headgateref01_TakeAll.f k a0 10).bind fun bt414 => (if bt414.2.2 = 0 then (headgateref15_Decode.j0 k bt414.1 (decide ((bt414.2.1.size : Int) > 0))) else (headgateref15_Decode.j0 k bt414.1 true))
theorem headgateref15_Decode.mono_l : ∀ k, (∀ y0 y1, LeO (headgateref15_Decode.j0 k y0 y1) (headgateref15_Decode.j0 (k + 1) y0 y1)) ∧ (∀ y0 y1 y2 y3 y4 y5 y6 y7 y8 y9 y10 y11, LeO (headgateref15_Decode.l0 k y0 y1 y2 y3 y4 y5 y6 y7 y8 y9 y10 y11) (headgateref15_Decode.l0 (k + 1) y0 y1 y2 y3 y4 y5 y6 y7 y8 y9 y10 y11))
  | 0 => ⟨fun _ _ r h => by simp [headgateref15_Decode.j0] at h, fun _ _ _ _ _ _ _ _ _ _ _ _ r h => by simp [headgateref15_Decode.l0] at h⟩
  | k + 1 => by
    obtain ⟨ih0, ih1⟩ := headgateref15_Decode.mono_l k
    refine ⟨?_, ?_⟩
    · intro y0 y1
      unfold headgateref15_Decode.j0
      repeat' first
      | (with_reducible exact ih0 _ _)
      | (with_reducible exact ih1 _ _ _ _ _ _ _ _ _ _ _ _)
      | (with_reducible exact headgateref01_TakeAll.mono _ _ _)
      | (with_reducible exact headgateref15_May.mono _ _ _ _ _ _ _ _ _ _ _)
      | (with_reducible exact LeO.refl _)
      | (with_reducible exact LeO.none _)
      | (with_reducible refine LeO.ite ?_ ?_)
      | (with_reducible refine LeO.bind ?_ (fun _ => ?_))
      | exact ih0 _ _
      | exact ih1 _ _ _ _ _ _ _ _ _ _ _ _
      | exact headgateref01_TakeAll.mono _ _ _
      | exact headgateref15_May.mono _ _ _ _ _ _ _ _ _ _ _
      | exact LeO.none _
      | refine LeO.ite ?_ ?_
      | refine LeO.bind ?_ (fun _ => ?_)
    · intro y0 y1 y2 y3 y4 y5 y6 y7 y8 y9 y10 y11
      unfold headgateref15_Decode.l0
      repeat' first
      | (with_reducible exact ih0 _ _)
      | (with_reducible exact ih1 _ _ _ _ _ _ _ _ _ _ _ _)
      | (with_reducible exact headgateref01_TakeAll.mono _ _ _)
      | (with_reducible exact headgateref15_May.mono _ _ _ _ _ _ _ _ _ _ _)
      | (with_reducible exact LeO.refl _)
      | (with_reducible exact LeO.none _)
      | (with_reducible refine LeO.ite ?_ ?_)
      | (with_reducible refine LeO.bind ?_ (fun _ => ?_))
      | exact ih0 _ _
      | exact ih1 _ _ _ _ _ _ _ _ _ _ _ _
      | exact headgateref01_TakeAll.mono _ _ _
      | exact headgateref15_May.mono _ _ _ _ _ _ _ _ _ _ _
      | exact LeO.none _
      | refine LeO.ite ?_ ?_
      | refine LeO.bind ?_ (fun _ => ?_)
theorem headgateref15_Decode.mono : ∀ a0 k, LeO (headgateref15_Decode.f k a0) (headgateref15_Decode.f (k + 1) a0) := by
  intro a0 k
  obtain ⟨ih0, ih1⟩ := headgateref15_Decode.mono_l k
  unfold headgateref15_Decode.f
  repeat' first
      | (with_reducible exact ih0 _ _)
      | (with_reducible exact ih1 _ _ _ _ _ _ _ _ _ _ _ _)
      | (with_reducible exact headgateref01_TakeAll.mono _ _ _)
      | (with_reducible exact headgateref15_May.mono _ _ _ _ _ _ _ _ _ _ _)
      | (with_reducible exact LeO.refl _)
      | (with_reducible exact LeO.none _)
      | (with_reducible refine LeO.ite ?_ ?_)
      | (with_reducible refine LeO.bind ?_ (fun _ => ?_))
      | exact ih0 _ _
      | exact ih1 _ _ _ _ _ _ _ _ _ _ _ _
      | exact headgateref01_TakeAll.mono _ _ _
      | exact headgateref15_May.mono _ _ _ _ _ _ _ _ _ _ _
      | exact LeO.none _
      | refine LeO.ite ?_ ?_
      | refine LeO.bind ?_ (fun _ => ?_)
def headgateref15_Decode.T4 : Bool × List (List Nat × List Nat) := (true, [([], []), ([0], [0]), ([1], [1]), ([], []), ([3], [3]), ([4], [4]), ([], []), ([6], [6]), ([7], [7]), ([], []), ([9], [9]), ([10], [10]), ([], []), ([12], [12]), ([13], [13]), ([], []), ([15], [15]), ([16], [16]), ([2, 5, 8, 11, 14, 17], [2, 5, 8, 11, 14, 17]), ([], []), ([19, 18, 0, 1, 2, 3, 4, 5, 6, 7, 8, 9, 10, 11, 12, 13, 14, 15, 16, 17, 18, 19], [18, 19])])
def headgateref15_Decode.B4 : List Nat := [0, 1, 3, 0, 8, 24, 0, 64, 192, 0, 512, 1536, 0, 4096, 12288, 0, 32768, 98304, 262143, 0, 1048575]
theorem headgateref15_Decode.tab4 : rtab .any (opsOf Try.f21 4) = headgateref15_Decode.T4 := by kernel_rfl
theorem headgateref15_Decode.bits4 : waitsOk headgateref15_Decode.T4.2 headgateref15_Decode.B4 = true := by kernel_rfl
set_option maxHeartbeats 8000000 in
set_option maxRecDepth 100000 in
theorem headgateref15_Decode.calls (k : Nat) (a0 : ByteArray) (r1 : Int) (r2 : Int) (r3 : Int) (r4 : Int) (r5 : Int) (r6 : Int) (r7 : Int) (r8 : Int) (r9 : Int) (r10 : Int) (r11 : Int) (w : World) (h : headgateref15_Decode.f k a0 = some (r1, r2, r3, r4, r5, r6, r7, r8, r9, r10, r11)) :
    Calls Try.prog 21 #[.string a0] w fun e w' => e = .returned (.tuple #[.agg #[.int .i64 r1, .int .i64 r2, .int .i64 r3, .int .i64 r4, .int .i64 r5, .int .i64 r6, .int .i64 r7, .int .i64 r8, .int .i64 r9, .int .i64 r10], .int .i64 r11]) ∧ Below w.heap.size w w' := by
  have hu24 := Try.underlying24
  have HB := Aside0.mk (Below.refl w.heap.size w)
  have H : ((headgateref01_TakeAll.f k a0 10).bind fun bt414 => (if bt414.2.2 = 0 then (headgateref15_Decode.j0 k bt414.1 (decide ((bt414.2.1.size : Int) > 0))) else (headgateref15_Decode.j0 k bt414.1 true))) = some (r1, r2, r3, r4, r5, r6, r7, r8, r9, r10, r11) := h
  clear h
  replace H := Option.bind_eq_some_iff.mp H
  obtain ⟨⟨t414, t415, t416⟩, A20, H⟩ := H
  replace H : (if t416 = 0 then (headgateref15_Decode.j0 k t414 (decide ((t415.size : Int) > 0))) else (headgateref15_Decode.j0 k t414 true)) = some (r1, r2, r3, r4, r5, r6, r7, r8, r9, r10, r11) := H
  have A2 := Aside0.mk A20
  clear A20
  have HC3 := Aside0.mk H
  clear H
  go_enter Try.func21, Try.ntmps21
  go_upto_region 2 with (first | ((with_reducible refine gate_dst (N := 2) rfl ?_); (try (refine gate_guard (by rfl) ?_; dsimp only)); refine box_event ?hg (N := 2) ?hd (cs := #[.int .i64 0, .int .i64 0, .int .i64 0, .int .i64 0, .int .i64 0, .int .i64 0, .int .i64 0, .int .i64 0, .int .i64 0, .int .i64 0]) (t := 24) ?hr ?_; (case hd => rfl); (case hg => rfl); (case hr => first | (go_simp; done) | (go_simp; rfl)); intro gb413 hg w4 hbox hb; have n0_ := Aside0.mk (below_step (by repeat (first | (with_reducible first | exact HB.out | apply below_alloc | apply pw_below_drewN | apply below_drew1) | exact HB.out)) hb); have n1_ := Aside0.mk (hbox); have n2_ := Aside0.mk ((by rw [hg]; exact (below_size (by repeat (first | (with_reducible first | exact HB.out | apply below_alloc | apply pw_below_drewN | apply below_drew1) | exact HB.out))) : w.heap.size ≤ gb413)); have n3_ := Aside0.mk ((by rw [hg]; exact (below_size (by repeat (first | (with_reducible first | exact HB.out | apply below_alloc | apply pw_below_drewN | apply below_drew1) | exact HB.out))) : w.heap.size ≤ gb413)); clear HB; have HB := n0_; have BK413 := n1_; have GW413 := n2_; have GE413 := n3_; clear n0_ n1_ n2_ n3_; clear hb hbox hg) | ((with_reducible refine gate_callee (f := 30) rfl ?_); refine goesL_ (some 11) rfl rfl Try.func30 (by kernel_rfl) rfl #[.string a0, .int .i64 10] rfl (by (try simp only [List.map_toArray, List.map_cons, List.map_nil]); first | done | rfl | (simp only [List.length_drop, List.length_take]; rfl)) ?_; (with_reducible refine (headgateref01_TakeAll.calls k a0 10 t414 t415 t416 _ A2.out).mono ?_); rintro e w5 ⟨v417, rfl, ho0, hb⟩; refine ⟨_, rfl, ?_⟩; have n0_ := Aside0.mk (Kd.R_lower ho0 (below_size (by repeat (first | (with_reducible first | exact HB.out | apply below_alloc | apply pw_below_drewN | apply below_drew1 | refine below_set ?_ GE413.out) | exact HB.out)))); have n1_ := Aside0.mk (blk_below (g := gb413) (o := .cells #[.int .i64 0, .int .i64 0, .int .i64 0, .int .i64 0, .int .i64 0, .int .i64 0, .int .i64 0, .int .i64 0, .int .i64 0, .int .i64 0] 24 (0, 0)) (by (with_reducible repeat (first | refine blk_drewN ?_ _ | refine blk_drew ?_ | refine blk_alloc ?_ _)); exact BK413.out) hb); have n2_ := Aside0.mk (below_step (by repeat (first | (with_reducible first | exact HB.out | apply below_alloc | apply pw_below_drewN | apply below_drew1 | refine below_set ?_ GE413.out) | exact HB.out)) hb); clear BK413; clear HB; have HO418 := n0_; have BK413 := n1_; have HB := n2_; clear n0_ n1_ n2_; (try clear hb); (try clear hb2); (try clear hk); (try clear hi); (try clear ho0)))
  (try simp only [Act.put, List.setIfInBounds_toArray, List.set_cons_zero, List.set_cons_succ])
  go_cut [21] (fun v21 wc => ∃ (kq : Nat) (x21_2 : Bool), v21 = .bool x21_2 ∧ Aside0 (headgateref15_Decode.j0 kq t414 x21_2 = some (r1, r2, r3, r4, r5, r6, r7, r8, r9, r10, r11)) ∧ Aside0 (kq ≤ k) ∧ Aside0 (Kd.R (Kd.int .i64) 3 wc w.heap.size (fun _ => True) v417 t414) ∧ Aside0 (wc.heap[gb413]? = some (.cells #[.int .i64 0, .int .i64 0, .int .i64 0, .int .i64 0, .int .i64 0, .int .i64 0, .int .i64 0, .int .i64 0, .int .i64 0, .int .i64 0] 24 (0, 0))) ∧ Aside0 (Below w.heap.size w wc))
  case first =>
    have H := HC3.out
    clear HC3
    by_cases c6 : t416 = 0
    · rw [if_pos c6] at H
      have c6b0 : (t416 == 0) = true := beq_iff_eq.mpr c6
      have c6b1 : (t416 != 0) = false := bne_eq_false_iff_eq.mpr c6
      clear c6
      (first | rw [c6b0] | rw [c6b9] | (simp only [i64_w, i32_w]; rw [c6b0]) | skip)
      have H' := Aside0.mk H
      clear H
      go_wp2
      go_meet
      case rel => exact ⟨_, (decide ((t415.size : Int) > 0)), (by first | rfl | (simp; done) | (simp [*]; done)), H', ⟨by first | omega | exact Nat.le_refl _⟩, ⟨by (with_reducible repeat (first | apply Kd.R_alloc | apply Kd.R_drewN | apply Kd.R_drew)); exact HO418.out⟩, ⟨by (with_reducible repeat (first | refine blk_drewN ?_ _ | refine blk_drew ?_ | refine blk_alloc ?_ _)); exact BK413.out⟩, ⟨by repeat (first | (with_reducible first | exact HB.out | apply below_alloc | apply pw_below_drewN | apply below_drew1 | refine below_set ?_ GE413.out) | exact HB.out)⟩⟩
    · rw [if_neg c6] at H
      have c6b0 : (t416 == 0) = false := beq_eq_false_iff_ne.mpr c6
      have c6b1 : (t416 != 0) = true := bne_iff_ne.mpr c6
      (first | rw [c6b0] | rw [c6b9] | (simp only [i64_w, i32_w]; rw [c6b0]) | skip)
      have H' := Aside0.mk H
      clear H
      go_wp2
      go_meet
      case rel => exact ⟨_, (true), (by first | rfl | (simp; done) | (simp [*]; done)), H', ⟨by first | omega | exact Nat.le_refl _⟩, ⟨by (with_reducible repeat (first | apply Kd.R_alloc | apply Kd.R_drewN | apply Kd.R_drew)); exact HO418.out⟩, ⟨by (with_reducible repeat (first | refine blk_drewN ?_ _ | refine blk_drew ?_ | refine blk_alloc ?_ _)); exact BK413.out⟩, ⟨by repeat (first | (with_reducible first | exact HB.out | apply below_alloc | apply pw_below_drewN | apply below_drew1 | refine below_set ?_ GE413.out) | exact HB.out)⟩⟩
  case rest =>
    clear HC3
    try clear c2
    try clear p2
    try clear c3
    try clear c6
    try clear c6b0
    try clear c6b1
    obtain ⟨kq, x21_2, rfl, HA, HJ2, HO_4, BK413, HB⟩ := hcut
    cases kq with
    | zero => exact absurd HA.out (by simp [headgateref15_Decode.j0])
    | succ kj2 =>
      have H := HA.out
      clear HA
      simp only [headgateref15_Decode.j0] at H
      by_cases c7 : x21_2 = true
      · subst c7
        have H1 : (some (0, 0, 0, 0, 0, 0, 0, 0, 0, 0, 2)) = some (r1, r2, r3, r4, r5, r6, r7, r8, r9, r10, r11) := by rw [if_pos rfl] at H; exact H
        clear H
        have H := H1
        clear H1
        simp only [Option.some.injEq, Prod.mk.injEq] at H
        obtain ⟨rfl, rfl, rfl, rfl, rfl, rfl, rfl, rfl, rfl, rfl, rfl⟩ := H
        have hcz8_0 : wc.cell? ⟨gb413, 0, none⟩ = some (.int .i64 0) := (blk_cell BK413.out 0).trans rfl
        have hcz8_1 : wc.cell? ⟨gb413, 1, none⟩ = some (.int .i64 0) := (blk_cell BK413.out 1).trans rfl
        have hcz8_2 : wc.cell? ⟨gb413, 2, none⟩ = some (.int .i64 0) := (blk_cell BK413.out 2).trans rfl
        have hcz8_3 : wc.cell? ⟨gb413, 3, none⟩ = some (.int .i64 0) := (blk_cell BK413.out 3).trans rfl
        have hcz8_4 : wc.cell? ⟨gb413, 4, none⟩ = some (.int .i64 0) := (blk_cell BK413.out 4).trans rfl
        have hcz8_5 : wc.cell? ⟨gb413, 5, none⟩ = some (.int .i64 0) := (blk_cell BK413.out 5).trans rfl
        have hcz8_6 : wc.cell? ⟨gb413, 6, none⟩ = some (.int .i64 0) := (blk_cell BK413.out 6).trans rfl
        have hcz8_7 : wc.cell? ⟨gb413, 7, none⟩ = some (.int .i64 0) := (blk_cell BK413.out 7).trans rfl
        have hcz8_8 : wc.cell? ⟨gb413, 8, none⟩ = some (.int .i64 0) := (blk_cell BK413.out 8).trans rfl
        have hcz8_9 : wc.cell? ⟨gb413, 9, none⟩ = some (.int .i64 0) := (blk_cell BK413.out 9).trans rfl
        have hfz8_0 := blk_frozen BK413.out 0
        have hfz8_1 := blk_frozen BK413.out 1
        have hfz8_2 := blk_frozen BK413.out 2
        have hfz8_3 := blk_frozen BK413.out 3
        have hfz8_4 := blk_frozen BK413.out 4
        have hfz8_5 := blk_frozen BK413.out 5
        have hfz8_6 := blk_frozen BK413.out 6
        have hfz8_7 := blk_frozen BK413.out 7
        have hfz8_8 := blk_frozen BK413.out 8
        have hfz8_9 := blk_frozen BK413.out 9
        go_wp2
        refine bodyPost_ret (results_ct rfl _ _ gb413 24 #[.int .i64 0, .int .i64 0, .int .i64 0, .int .i64 0, .int .i64 0, .int .i64 0, .int .i64 0, .int .i64 0, .int .i64 0, .int .i64 0] (0, 0) _ rfl (by (with_reducible repeat (first | refine blk_drewN ?_ _ | refine blk_drew ?_ | refine blk_alloc ?_ _)); refine blk_put (cs := #[.int .i64 0, .int .i64 0, .int .i64 0, .int .i64 0, .int .i64 0, .int .i64 0, .int .i64 0, .int .i64 0, .int .i64 0, .int .i64 0]) ?_ 9 _ rfl; (with_reducible repeat (first | refine blk_drewN ?_ _ | refine blk_drew ?_ | refine blk_alloc ?_ _)); refine blk_put (cs := #[.int .i64 0, .int .i64 0, .int .i64 0, .int .i64 0, .int .i64 0, .int .i64 0, .int .i64 0, .int .i64 0, .int .i64 0, .int .i64 0]) ?_ 8 _ rfl; (with_reducible repeat (first | refine blk_drewN ?_ _ | refine blk_drew ?_ | refine blk_alloc ?_ _)); refine blk_put (cs := #[.int .i64 0, .int .i64 0, .int .i64 0, .int .i64 0, .int .i64 0, .int .i64 0, .int .i64 0, .int .i64 0, .int .i64 0, .int .i64 0]) ?_ 7 _ rfl; (with_reducible repeat (first | refine blk_drewN ?_ _ | refine blk_drew ?_ | refine blk_alloc ?_ _)); refine blk_put (cs := #[.int .i64 0, .int .i64 0, .int .i64 0, .int .i64 0, .int .i64 0, .int .i64 0, .int .i64 0, .int .i64 0, .int .i64 0, .int .i64 0]) ?_ 6 _ rfl; (with_reducible repeat (first | refine blk_drewN ?_ _ | refine blk_drew ?_ | refine blk_alloc ?_ _)); refine blk_put (cs := #[.int .i64 0, .int .i64 0, .int .i64 0, .int .i64 0, .int .i64 0, .int .i64 0, .int .i64 0, .int .i64 0, .int .i64 0, .int .i64 0]) ?_ 5 _ rfl; (with_reducible repeat (first | refine blk_drewN ?_ _ | refine blk_drew ?_ | refine blk_alloc ?_ _)); refine blk_put (cs := #[.int .i64 0, .int .i64 0, .int .i64 0, .int .i64 0, .int .i64 0, .int .i64 0, .int .i64 0, .int .i64 0, .int .i64 0, .int .i64 0]) ?_ 4 _ rfl; (with_reducible repeat (first | refine blk_drewN ?_ _ | refine blk_drew ?_ | refine blk_alloc ?_ _)); refine blk_put (cs := #[.int .i64 0, .int .i64 0, .int .i64 0, .int .i64 0, .int .i64 0, .int .i64 0, .int .i64 0, .int .i64 0, .int .i64 0, .int .i64 0]) ?_ 3 _ rfl; (with_reducible repeat (first | refine blk_drewN ?_ _ | refine blk_drew ?_ | refine blk_alloc ?_ _)); refine blk_put (cs := #[.int .i64 0, .int .i64 0, .int .i64 0, .int .i64 0, .int .i64 0, .int .i64 0, .int .i64 0, .int .i64 0, .int .i64 0, .int .i64 0]) ?_ 2 _ rfl; (with_reducible repeat (first | refine blk_drewN ?_ _ | refine blk_drew ?_ | refine blk_alloc ?_ _)); refine blk_put (cs := #[.int .i64 0, .int .i64 0, .int .i64 0, .int .i64 0, .int .i64 0, .int .i64 0, .int .i64 0, .int .i64 0, .int .i64 0, .int .i64 0]) ?_ 1 _ rfl; (with_reducible repeat (first | refine blk_drewN ?_ _ | refine blk_drew ?_ | refine blk_alloc ?_ _)); refine blk_put (cs := #[.int .i64 0, .int .i64 0, .int .i64 0, .int .i64 0, .int .i64 0, .int .i64 0, .int .i64 0, .int .i64 0, .int .i64 0, .int .i64 0]) ?_ 0 _ rfl; (with_reducible repeat (first | refine blk_drewN ?_ _ | refine blk_drew ?_ | refine blk_alloc ?_ _)); exact BK413.out) Try.underlying24 rfl (by kernel_rfl)) rfl ?_
        exact ⟨by first | rfl | (simp [errW_none, errW_some] <;> rfl) | (simp [*, errW_none, errW_some] <;> rfl), by repeat (first | (with_reducible first | exact HB.out | apply below_alloc | apply pw_below_drewN | apply below_drew1 | refine below_set ?_ GE413.out) | exact HB.out)⟩
      · replace c7 := Bool.eq_false_iff.mpr c7
        subst c7
        have H1 : (if 0 < (t414.length : Int) then (if 1 < (t414.length : Int) then (if 2 < (t414.length : Int) then (if 3 < (t414.length : Int) then (if 8 < (t414.length : Int) then (if 9 < (t414.length : Int) then (headgateref15_Decode.l0 kj2 t414 0 (rd t414 0) (rd t414 1) (rd t414 2) (rd t414 3) 0 0 0 0 (rd t414 8) (rd t414 9)) else (none)) else (none)) else (none)) else (none)) else (none)) else (none)) = some (r1, r2, r3, r4, r5, r6, r7, r8, r9, r10, r11) := by rw [if_neg (show ¬ (false = true) by decide)] at H; exact H
        clear H
        have H := H1
        clear H1
        by_cases c9 : 0 < (t414.length : Int)
        · rw [if_pos c9] at H
          have c9b0 : decide (0 < (t414.length : Int)) = true := decide_eq_true c9
          have c9b1 : decide (0 < t414.length) = true := decide_eq_true (by omega)
          clear c9
          by_cases c10 : 1 < (t414.length : Int)
          · rw [if_pos c10] at H
            have c10b0 : decide (1 < (t414.length : Int)) = true := decide_eq_true c10
            have c10b1 : decide (1 < t414.length) = true := decide_eq_true (by omega)
            clear c10
            by_cases c11 : 2 < (t414.length : Int)
            · rw [if_pos c11] at H
              have c11b0 : decide (2 < (t414.length : Int)) = true := decide_eq_true c11
              have c11b1 : decide (2 < t414.length) = true := decide_eq_true (by omega)
              clear c11
              by_cases c12 : 3 < (t414.length : Int)
              · rw [if_pos c12] at H
                have c12b0 : decide (3 < (t414.length : Int)) = true := decide_eq_true c12
                have c12b1 : decide (3 < t414.length) = true := decide_eq_true (by omega)
                clear c12
                by_cases c13 : 8 < (t414.length : Int)
                · rw [if_pos c13] at H
                  have c13b0 : decide (8 < (t414.length : Int)) = true := decide_eq_true c13
                  have c13b1 : decide (8 < t414.length) = true := decide_eq_true (by omega)
                  clear c13
                  by_cases c14 : 9 < (t414.length : Int)
                  · rw [if_pos c14] at H
                    have c14b0 : decide (9 < (t414.length : Int)) = true := decide_eq_true c14
                    have c14b1 : decide (9 < t414.length) = true := decide_eq_true (by omega)
                    clear c14
                    have H' := Aside0.mk H
                    clear H
                    try go_wp2
                    have n0_ := Aside0.mk (Kd.R_drew HO_4.out)
                    have n1_ := Aside0.mk (blk_drew BK413.out)
                    have n2_ := Aside0.mk (below_drew1 HB.out)
                    clear HO_4
                    clear BK413
                    clear HB
                    have HO_4 := n0_
                    have BK413 := n1_
                    have HB := n2_
                    clear n0_ n1_ n2_
                    obtain ⟨Ao16, co16, eo16⟩ := Kd.R_slice HO_4.out
                    (first | subst eo16 | (injection eo16 with f1_ f2_ f3_; have f4_ := f1_.symm; have f5_ := f3_.symm; clear f1_ f2_ f3_; subst f4_; subst f5_))
                    have p419 : 0 ≤ (0 : Int) := (by omega)
                    have q419 : 0 < (t414.length : Int) := of_decide_eq_true (by first | (with_reducible assumption) | assumption)
                    obtain ⟨ad419, e419, hx419_0⟩ := Kd.at_int (Kd.R_reads' HO_4.out).2.2 0 p419 q419
                    cases e419
                    have qi419 : (0 < t414.length) = True := eq_true (by omega)
                    (try rw [show ((0 : Int)).toNat = 0 from rfl] at hx419_0)
                    (try rw [Addr.add_zero'] at hx419_0)
                    replace p419 := eq_true p419
                    replace q419 := eq_true q419
                    have p420 : 0 ≤ (1 : Int) := (by omega)
                    have q420 : 1 < (t414.length : Int) := of_decide_eq_true (by first | (with_reducible assumption) | assumption)
                    obtain ⟨ad420, e420, hx420_0⟩ := Kd.at_int (Kd.R_reads' HO_4.out).2.2 1 p420 q420
                    obtain rfl : ad419 = ad420 := (by injection e420)
                    (try simp only [show (1 : Int).toNat = 1 from rfl, Nat.reduceMul, Nat.reduceEqDiff, Go.Addr.add, ↓reduceIte] at hx420_0)
                    have qi420 : (1 < t414.length) = True := eq_true (by omega)
                    (try rw [show ((1 : Int)).toNat = 1 from rfl] at hx420_0)
                    replace p420 := eq_true p420
                    replace q420 := eq_true q420
                    have p421 : 0 ≤ (2 : Int) := (by omega)
                    have q421 : 2 < (t414.length : Int) := of_decide_eq_true (by first | (with_reducible assumption) | assumption)
                    obtain ⟨ad421, e421, hx421_0⟩ := Kd.at_int (Kd.R_reads' HO_4.out).2.2 2 p421 q421
                    obtain rfl : ad419 = ad421 := (by injection e421)
                    (try simp only [show (2 : Int).toNat = 2 from rfl, Nat.reduceMul, Nat.reduceEqDiff, Go.Addr.add, ↓reduceIte] at hx421_0)
                    have qi421 : (2 < t414.length) = True := eq_true (by omega)
                    (try rw [show ((2 : Int)).toNat = 2 from rfl] at hx421_0)
                    replace p421 := eq_true p421
                    replace q421 := eq_true q421
                    have p422 : 0 ≤ (3 : Int) := (by omega)
                    have q422 : 3 < (t414.length : Int) := of_decide_eq_true (by first | (with_reducible assumption) | assumption)
                    obtain ⟨ad422, e422, hx422_0⟩ := Kd.at_int (Kd.R_reads' HO_4.out).2.2 3 p422 q422
                    obtain rfl : ad419 = ad422 := (by injection e422)
                    (try simp only [show (3 : Int).toNat = 3 from rfl, Nat.reduceMul, Nat.reduceEqDiff, Go.Addr.add, ↓reduceIte] at hx422_0)
                    have qi422 : (3 < t414.length) = True := eq_true (by omega)
                    (try rw [show ((3 : Int)).toNat = 3 from rfl] at hx422_0)
                    replace p422 := eq_true p422
                    replace q422 := eq_true q422
                    have p423 : 0 ≤ (8 : Int) := (by omega)
                    have q423 : 8 < (t414.length : Int) := of_decide_eq_true (by first | (with_reducible assumption) | assumption)
                    obtain ⟨ad423, e423, hx423_0⟩ := Kd.at_int (Kd.R_reads' HO_4.out).2.2 8 p423 q423
                    obtain rfl : ad419 = ad423 := (by injection e423)
                    (try simp only [show (8 : Int).toNat = 8 from rfl, Nat.reduceMul, Nat.reduceEqDiff, Go.Addr.add, ↓reduceIte] at hx423_0)
                    have qi423 : (8 < t414.length) = True := eq_true (by omega)
                    (try rw [show ((8 : Int)).toNat = 8 from rfl] at hx423_0)
                    replace p423 := eq_true p423
                    replace q423 := eq_true q423
                    have p424 : 0 ≤ (9 : Int) := (by omega)
                    have q424 : 9 < (t414.length : Int) := of_decide_eq_true (by first | (with_reducible assumption) | assumption)
                    obtain ⟨ad424, e424, hx424_0⟩ := Kd.at_int (Kd.R_reads' HO_4.out).2.2 9 p424 q424
                    obtain rfl : ad419 = ad424 := (by injection e424)
                    (try simp only [show (9 : Int).toNat = 9 from rfl, Nat.reduceMul, Nat.reduceEqDiff, Go.Addr.add, ↓reduceIte] at hx424_0)
                    have qi424 : (9 < t414.length) = True := eq_true (by omega)
                    (try rw [show ((9 : Int)).toNat = 9 from rfl] at hx424_0)
                    replace p424 := eq_true p424
                    replace q424 := eq_true q424
                    refine start_ (n := 21) (S := fun w' => w'.cell? ad419 = some (.int .i64 (rd t414 0)) ∧ w'.cell? ⟨ad419.block, ad419.off + 1, none⟩ = some (.int .i64 (rd t414 1)) ∧ w'.cell? ⟨ad419.block, ad419.off + 2, none⟩ = some (.int .i64 (rd t414 2)) ∧ w'.cell? ⟨ad419.block, ad419.off + 3, none⟩ = some (.int .i64 (rd t414 3)) ∧ w'.cell? ⟨ad419.block, ad419.off + 8, none⟩ = some (.int .i64 (rd t414 8)) ∧ w'.cell? ⟨ad419.block, ad419.off + 9, none⟩ = some (.int .i64 (rd t414 9))) (ds := []) #[false, false, false, false, false, false, false, false, false, false, false, false, false, false, false, false, false, false, false, false, false] (by kernel_rfl) rfl rfl ⟨hx419_0, hx420_0, hx421_0, hx422_0, hx423_0, hx424_0⟩ (fun hHeld => ?_); refine with_tabW headgateref15_Decode.tab4 headgateref15_Decode.bits4 (fun HT_ HW_ => ?_)
                    generalize wc.drew = w15 at HO_4 BK413 HB hx419_0 hx420_0 hx421_0 hx422_0 hx423_0 hx424_0 hHeld ⊢
                    refine pure_ (i := 0) (N := some 23) (v := ?_) (a' := ?_) #[true, false, false, false, false, false, false, false, false, false, false, false, false, false, false, false, false, false, false, false, false] rfl rfl (any_of HT_.out (by kernel_rfl)) (fun _ _ _ h => h) (Or.inl ⟨by rfl, ?_⟩) ?_ ?_
                    rotate_left
                    · intro w'
                      go_simp
                      with_reducible rfl
                    rotate_left
                    · simp only [Act.put, List.setIfInBounds_toArray, List.set_cons_zero, List.set_cons_succ, i64_w, i32_w]
                      rfl
                    refine pure_ (i := 1) (N := some 24) (v := ?_) (a' := ?_) #[true, true, false, false, false, false, false, false, false, false, false, false, false, false, false, false, false, false, false, false, false] rfl rfl (any_of HT_.out (by kernel_rfl)) (fun _ _ _ h => h) (Or.inl ⟨by rfl, ?_⟩) ?_ ?_
                    rotate_left
                    · intro w'
                      go_simp
                      with_reducible rfl
                    rotate_left
                    · simp only [Act.put, List.setIfInBounds_toArray, List.set_cons_zero, List.set_cons_succ, i64_w, i32_w]
                      rfl
                    refine pure_ (i := 3) (N := some 26) (v := ?_) (a' := ?_) #[true, true, false, true, false, false, false, false, false, false, false, false, false, false, false, false, false, false, false, false, false] rfl rfl (any_of HT_.out (by kernel_rfl)) (fun _ _ _ h => h) (Or.inl ⟨by rfl, ?_⟩) ?_ ?_
                    rotate_left
                    · intro w'
                      go_simp
                      with_reducible rfl
                    rotate_left
                    · simp only [Act.put, List.setIfInBounds_toArray, List.set_cons_zero, List.set_cons_succ, i64_w, i32_w]
                      rfl
                    refine pure_ (i := 4) (N := some 27) (v := ?_) (a' := ?_) #[true, true, false, true, true, false, false, false, false, false, false, false, false, false, false, false, false, false, false, false, false] rfl rfl (any_of HT_.out (by kernel_rfl)) (fun _ _ _ h => h) (Or.inl ⟨by rfl, ?_⟩) ?_ ?_
                    rotate_left
                    · intro w'
                      go_simp
                      with_reducible rfl
                    rotate_left
                    · simp only [Act.put, List.setIfInBounds_toArray, List.set_cons_zero, List.set_cons_succ, i64_w, i32_w]
                      rfl
                    refine pure_ (i := 6) (N := some 29) (v := ?_) (a' := ?_) #[true, true, false, true, true, false, true, false, false, false, false, false, false, false, false, false, false, false, false, false, false] rfl rfl (any_of HT_.out (by kernel_rfl)) (fun _ _ _ h => h) (Or.inl ⟨by rfl, ?_⟩) ?_ ?_
                    rotate_left
                    · intro w'
                      go_simp
                      with_reducible rfl
                    rotate_left
                    · simp only [Act.put, List.setIfInBounds_toArray, List.set_cons_zero, List.set_cons_succ, i64_w, i32_w]
                      rfl
                    refine pure_ (i := 7) (N := some 30) (v := ?_) (a' := ?_) #[true, true, false, true, true, false, true, true, false, false, false, false, false, false, false, false, false, false, false, false, false] rfl rfl (any_of HT_.out (by kernel_rfl)) (fun _ _ _ h => h) (Or.inl ⟨by rfl, ?_⟩) ?_ ?_
                    rotate_left
                    · intro w'
                      go_simp
                      with_reducible rfl
                    rotate_left
                    · simp only [Act.put, List.setIfInBounds_toArray, List.set_cons_zero, List.set_cons_succ, i64_w, i32_w]
                      rfl
                    refine pure_ (i := 9) (N := some 32) (v := ?_) (a' := ?_) #[true, true, false, true, true, false, true, true, false, true, false, false, false, false, false, false, false, false, false, false, false] rfl rfl (any_of HT_.out (by kernel_rfl)) (fun _ _ _ h => h) (Or.inl ⟨by rfl, ?_⟩) ?_ ?_
                    rotate_left
                    · intro w'
                      go_simp
                      with_reducible rfl
                    rotate_left
                    · simp only [Act.put, List.setIfInBounds_toArray, List.set_cons_zero, List.set_cons_succ, i64_w, i32_w]
                      rfl
                    refine pure_ (i := 10) (N := some 33) (v := ?_) (a' := ?_) #[true, true, false, true, true, false, true, true, false, true, true, false, false, false, false, false, false, false, false, false, false] rfl rfl (any_of HT_.out (by kernel_rfl)) (fun _ _ _ h => h) (Or.inl ⟨by rfl, ?_⟩) ?_ ?_
                    rotate_left
                    · intro w'
                      go_simp
                      with_reducible rfl
                    rotate_left
                    · simp only [Act.put, List.setIfInBounds_toArray, List.set_cons_zero, List.set_cons_succ, i64_w, i32_w]
                      rfl
                    refine pure_ (i := 12) (N := some 35) (v := ?_) (a' := ?_) #[true, true, false, true, true, false, true, true, false, true, true, false, true, false, false, false, false, false, false, false, false] rfl rfl (any_of HT_.out (by kernel_rfl)) (fun _ _ _ h => h) (Or.inl ⟨by rfl, ?_⟩) ?_ ?_
                    rotate_left
                    · intro w'
                      go_simp
                      with_reducible rfl
                    rotate_left
                    · simp only [Act.put, List.setIfInBounds_toArray, List.set_cons_zero, List.set_cons_succ, i64_w, i32_w]
                      rfl
                    refine pure_ (i := 13) (N := some 36) (v := ?_) (a' := ?_) #[true, true, false, true, true, false, true, true, false, true, true, false, true, true, false, false, false, false, false, false, false] rfl rfl (any_of HT_.out (by kernel_rfl)) (fun _ _ _ h => h) (Or.inl ⟨by rfl, ?_⟩) ?_ ?_
                    rotate_left
                    · intro w'
                      go_simp
                      with_reducible rfl
                    rotate_left
                    · simp only [Act.put, List.setIfInBounds_toArray, List.set_cons_zero, List.set_cons_succ, i64_w, i32_w]
                      rfl
                    refine pure_ (i := 15) (N := some 38) (v := ?_) (a' := ?_) #[true, true, false, true, true, false, true, true, false, true, true, false, true, true, false, true, false, false, false, false, false] rfl rfl (any_of HT_.out (by kernel_rfl)) (fun _ _ _ h => h) (Or.inl ⟨by rfl, ?_⟩) ?_ ?_
                    rotate_left
                    · intro w'
                      go_simp
                      with_reducible rfl
                    rotate_left
                    · simp only [Act.put, List.setIfInBounds_toArray, List.set_cons_zero, List.set_cons_succ, i64_w, i32_w]
                      rfl
                    refine pure_ (i := 16) (N := some 39) (v := ?_) (a' := ?_) #[true, true, false, true, true, false, true, true, false, true, true, false, true, true, false, true, true, false, false, false, false] rfl rfl (any_of HT_.out (by kernel_rfl)) (fun _ _ _ h => h) (Or.inl ⟨by rfl, ?_⟩) ?_ ?_
                    rotate_left
                    · intro w'
                      go_simp
                      with_reducible rfl
                    rotate_left
                    · simp only [Act.put, List.setIfInBounds_toArray, List.set_cons_zero, List.set_cons_succ, i64_w, i32_w]
                      rfl
                    refine take_ (i := 2) (N := some 25) (v := ?_) (a' := ?_) #[true, true, true, true, true, false, true, true, false, true, true, false, true, true, false, true, true, false, false, false, false] rfl rfl (take_ofW HT_.out HW_.out (by kernel_rfl)) (fun _ _ _ h => h) (Or.inl ⟨by rfl, ?_⟩) hHeld ?_ ?_
                    rotate_left
                    · rintro w' ⟨s0, s1, s2, s3, s4, s5⟩
                      go_simp
                      with_reducible rfl
                    rotate_left
                    · simp only [Act.put, List.setIfInBounds_toArray, List.set_cons_zero, List.set_cons_succ, i64_w, i32_w]
                      rfl
                    refine take_ (i := 5) (N := some 28) (v := ?_) (a' := ?_) #[true, true, true, true, true, true, true, true, false, true, true, false, true, true, false, true, true, false, false, false, false] rfl rfl (take_ofW HT_.out HW_.out (by kernel_rfl)) (fun _ _ _ h => h) (Or.inl ⟨by rfl, ?_⟩) hHeld ?_ ?_
                    rotate_left
                    · rintro w' ⟨s0, s1, s2, s3, s4, s5⟩
                      go_simp
                      with_reducible rfl
                    rotate_left
                    · simp only [Act.put, List.setIfInBounds_toArray, List.set_cons_zero, List.set_cons_succ, i64_w, i32_w]
                      rfl
                    refine take_ (i := 8) (N := some 31) (v := ?_) (a' := ?_) #[true, true, true, true, true, true, true, true, true, true, true, false, true, true, false, true, true, false, false, false, false] rfl rfl (take_ofW HT_.out HW_.out (by kernel_rfl)) (fun _ _ _ h => h) (Or.inl ⟨by rfl, ?_⟩) hHeld ?_ ?_
                    rotate_left
                    · rintro w' ⟨s0, s1, s2, s3, s4, s5⟩
                      go_simp
                      with_reducible rfl
                    rotate_left
                    · simp only [Act.put, List.setIfInBounds_toArray, List.set_cons_zero, List.set_cons_succ, i64_w, i32_w]
                      rfl
                    refine take_ (i := 11) (N := some 34) (v := ?_) (a' := ?_) #[true, true, true, true, true, true, true, true, true, true, true, true, true, true, false, true, true, false, false, false, false] rfl rfl (take_ofW HT_.out HW_.out (by kernel_rfl)) (fun _ _ _ h => h) (Or.inl ⟨by rfl, ?_⟩) hHeld ?_ ?_
                    rotate_left
                    · rintro w' ⟨s0, s1, s2, s3, s4, s5⟩
                      go_simp
                      with_reducible rfl
                    rotate_left
                    · simp only [Act.put, List.setIfInBounds_toArray, List.set_cons_zero, List.set_cons_succ, i64_w, i32_w]
                      rfl
                    refine take_ (i := 14) (N := some 37) (v := ?_) (a' := ?_) #[true, true, true, true, true, true, true, true, true, true, true, true, true, true, true, true, true, false, false, false, false] rfl rfl (take_ofW HT_.out HW_.out (by kernel_rfl)) (fun _ _ _ h => h) (Or.inl ⟨by rfl, ?_⟩) hHeld ?_ ?_
                    rotate_left
                    · rintro w' ⟨s0, s1, s2, s3, s4, s5⟩
                      go_simp
                      with_reducible rfl
                    rotate_left
                    · simp only [Act.put, List.setIfInBounds_toArray, List.set_cons_zero, List.set_cons_succ, i64_w, i32_w]
                      rfl
                    refine take_ (i := 17) (N := some 40) (v := ?_) (a' := ?_) #[true, true, true, true, true, true, true, true, true, true, true, true, true, true, true, true, true, true, false, false, false] rfl rfl (take_ofW HT_.out HW_.out (by kernel_rfl)) (fun _ _ _ h => h) (Or.inl ⟨by rfl, ?_⟩) hHeld ?_ ?_
                    rotate_left
                    · rintro w' ⟨s0, s1, s2, s3, s4, s5⟩
                      go_simp
                      with_reducible rfl
                    rotate_left
                    · simp only [Act.put, List.setIfInBounds_toArray, List.set_cons_zero, List.set_cons_succ, i64_w, i32_w]
                      rfl
                    refine pure_ (i := 18) (N := some 41) (v := ?_) (a' := ?_) #[true, true, true, true, true, true, true, true, true, true, true, true, true, true, true, true, true, true, true, false, false] rfl rfl (any_of HT_.out (by kernel_rfl)) (fun _ _ _ h => h) (Or.inl ⟨by rfl, ?_⟩) ?_ ?_
                    rotate_left
                    · intro w'
                      go_simp
                      with_reducible rfl
                    rotate_left
                    · simp only [Act.put, List.setIfInBounds_toArray, List.set_cons_zero, List.set_cons_succ, i64_w, i32_w]
                      rfl
                    refine one_ (i := 19) (N := some 7) #[true, true, true, true, true, true, true, true, true, true, true, true, true, true, true, true, true, true, true, true, false] rfl rfl (one_of HT_.out (by kernel_rfl)) (by decide) (fun K hK => ?_)
                    refine box_step ?hg (N := 7) ?hd (cs := #[.int .i64 0, .int .i64 0, .int .i64 0, .int .i64 0, .int .i64 0, .int .i64 0, .int .i64 0, .int .i64 0, .int .i64 0, .int .i64 0]) (t := 24) ?hr ?_; (case hd => rfl); (case hg => rfl); (case hr => first | (go_simp; done) | (go_simp; rfl))
                    intro gb425 hg w17 hbox hb
                    have HS0_ := (hb.cell (World.block_lt_of_cell? _ _ (hHeld.1))).trans (hHeld.1)
                    have HS1_ := (hb.cell (World.block_lt_of_cell? _ _ (hHeld.2.1))).trans (hHeld.2.1)
                    have HS2_ := (hb.cell (World.block_lt_of_cell? _ _ (hHeld.2.2.1))).trans (hHeld.2.2.1)
                    have HS3_ := (hb.cell (World.block_lt_of_cell? _ _ (hHeld.2.2.2.1))).trans (hHeld.2.2.2.1)
                    have HS4_ := (hb.cell (World.block_lt_of_cell? _ _ (hHeld.2.2.2.2.1))).trans (hHeld.2.2.2.2.1)
                    have HS5_ := (hb.cell (World.block_lt_of_cell? _ _ (hHeld.2.2.2.2.2))).trans (hHeld.2.2.2.2.2)
                    have HNE0_425 : (ad419 : Addr).block ≠ gb425 := (by rw [hg]; exact Nat.ne_of_lt (World.block_lt_of_cell? _ _ (hHeld.1)))
                    have HNE1_425 : (⟨ad419.block, ad419.off + 1, none⟩ : Addr).block ≠ gb425 := (by rw [hg]; exact Nat.ne_of_lt (World.block_lt_of_cell? _ _ (hHeld.2.1)))
                    have HNE2_425 : (⟨ad419.block, ad419.off + 2, none⟩ : Addr).block ≠ gb425 := (by rw [hg]; exact Nat.ne_of_lt (World.block_lt_of_cell? _ _ (hHeld.2.2.1)))
                    have HNE3_425 : (⟨ad419.block, ad419.off + 3, none⟩ : Addr).block ≠ gb425 := (by rw [hg]; exact Nat.ne_of_lt (World.block_lt_of_cell? _ _ (hHeld.2.2.2.1)))
                    have HNE4_425 : (⟨ad419.block, ad419.off + 8, none⟩ : Addr).block ≠ gb425 := (by rw [hg]; exact Nat.ne_of_lt (World.block_lt_of_cell? _ _ (hHeld.2.2.2.2.1)))
                    have HNE5_425 : (⟨ad419.block, ad419.off + 9, none⟩ : Addr).block ≠ gb425 := (by rw [hg]; exact Nat.ne_of_lt (World.block_lt_of_cell? _ _ (hHeld.2.2.2.2.2)))
                    have n0_ := Aside0.mk (Kd.R_below (by (with_reducible repeat (first | apply Kd.R_alloc | apply Kd.R_drewN | apply Kd.R_drew)); exact HO_4.out) hb)
                    have n1_ := Aside0.mk (blk_below (g := gb413) (o := .cells #[.int .i64 0, .int .i64 0, .int .i64 0, .int .i64 0, .int .i64 0, .int .i64 0, .int .i64 0, .int .i64 0, .int .i64 0, .int .i64 0] 24 (0, 0)) (by (with_reducible repeat (first | refine blk_drewN ?_ _ | refine blk_drew ?_ | refine blk_alloc ?_ _)); exact BK413.out) hb)
                    have n2_ := Aside0.mk (below_step (by repeat (first | (with_reducible first | exact HB.out | apply below_alloc | apply pw_below_drewN | apply below_drew1 | refine below_set ?_ GE413.out) | exact HB.out)) hb)
                    have n3_ := Aside0.mk (hbox)
                    have n4_ := Aside0.mk ((by rw [hg]; exact (below_size (by repeat (first | (with_reducible first | exact HB.out | apply below_alloc | apply pw_below_drewN | apply below_drew1 | refine below_set ?_ GE413.out) | exact HB.out))) : w.heap.size ≤ gb425))
                    have n5_ := Aside0.mk ((by rw [hg]; exact (below_size (by repeat (first | (with_reducible first | exact HB.out | apply below_alloc | apply pw_below_drewN | apply below_drew1 | refine below_set ?_ GE413.out) | exact HB.out))) : w.heap.size ≤ gb425))
                    have n6_ := Aside0.mk ((by rw [hg]; exact Nat.ne_of_lt (blk_lt (g := gb413) (o := .cells #[.int .i64 0, .int .i64 0, .int .i64 0, .int .i64 0, .int .i64 0, .int .i64 0, .int .i64 0, .int .i64 0, .int .i64 0, .int .i64 0] 24 (0, 0)) (by (with_reducible repeat (first | refine blk_drewN ?_ _ | refine blk_drew ?_ | refine blk_alloc ?_ _)); exact BK413.out)) : gb413 ≠ gb425))
                    have n7_ := Aside0.mk ((by rw [hg]; exact Nat.ne_of_gt (blk_lt (g := gb413) (o := .cells #[.int .i64 0, .int .i64 0, .int .i64 0, .int .i64 0, .int .i64 0, .int .i64 0, .int .i64 0, .int .i64 0, .int .i64 0, .int .i64 0] 24 (0, 0)) (by (with_reducible repeat (first | refine blk_drewN ?_ _ | refine blk_drew ?_ | refine blk_alloc ?_ _)); exact BK413.out)) : gb425 ≠ gb413))
                    clear HO_4
                    clear BK413
                    clear HB
                    have HO_4 := n0_
                    have BK413 := n1_
                    have HB := n2_
                    have BK425 := n3_
                    have GW425 := n4_
                    have GE425 := n5_
                    have NB413_425 := n6_
                    have NB425_413 := n7_
                    clear n0_ n1_ n2_ n3_ n4_ n5_ n6_ n7_
                    clear hb hbox hg
                    refine hK.out _ _ ⟨HS0_, HS1_, HS2_, HS3_, HS4_, HS5_⟩ (fun hHeld => ?_)
                    clear hK K
                    refine norm_ (a' := ?_) ?_ ?_
                    rotate_left
                    · show Act.put _ (some 7) _ = _
                      simp only [Act.put, List.setIfInBounds_toArray, List.set_cons_zero, List.set_cons_succ, i64_w, i32_w]
                      rfl
                    refine one_ (i := 20) (N := none) #[true, true, true, true, true, true, true, true, true, true, true, true, true, true, true, true, true, true, true, true, true] rfl rfl (one_of HT_.out (by kernel_rfl)) (by decide) (fun K hK => ?_)
                    have hs18 : w17.cell? ⟨gb425, 0, none⟩ = some (.int .i64 0) := (blk_cell BK425.out 0).trans rfl
                    have hfs18 := blk_frozen BK425.out 0
                    have hns18_0 := NB413_425.out
                    have hms18_0 := NB425_413.out
                    have hs19 : w17.cell? ⟨gb425, 1, none⟩ = some (.int .i64 0) := (blk_cell BK425.out 1).trans rfl
                    have hfs19 := blk_frozen BK425.out 1
                    have hns19_0 := NB413_425.out
                    have hms19_0 := NB425_413.out
                    have hs20 : w17.cell? ⟨gb425, 2, none⟩ = some (.int .i64 0) := (blk_cell BK425.out 2).trans rfl
                    have hfs20 := blk_frozen BK425.out 2
                    have hns20_0 := NB413_425.out
                    have hms20_0 := NB425_413.out
                    have hs21 : w17.cell? ⟨gb425, 3, none⟩ = some (.int .i64 0) := (blk_cell BK425.out 3).trans rfl
                    have hfs21 := blk_frozen BK425.out 3
                    have hns21_0 := NB413_425.out
                    have hms21_0 := NB425_413.out
                    have hs22 : w17.cell? ⟨gb425, 4, none⟩ = some (.int .i64 0) := (blk_cell BK425.out 4).trans rfl
                    have hfs22 := blk_frozen BK425.out 4
                    have hns22_0 := NB413_425.out
                    have hms22_0 := NB425_413.out
                    have hs23 : w17.cell? ⟨gb425, 5, none⟩ = some (.int .i64 0) := (blk_cell BK425.out 5).trans rfl
                    have hfs23 := blk_frozen BK425.out 5
                    have hns23_0 := NB413_425.out
                    have hms23_0 := NB425_413.out
                    have hs24 : w17.cell? ⟨gb425, 6, none⟩ = some (.int .i64 0) := (blk_cell BK425.out 6).trans rfl
                    have hfs24 := blk_frozen BK425.out 6
                    have hns24_0 := NB413_425.out
                    have hms24_0 := NB425_413.out
                    have hs25 : w17.cell? ⟨gb425, 7, none⟩ = some (.int .i64 0) := (blk_cell BK425.out 7).trans rfl
                    have hfs25 := blk_frozen BK425.out 7
                    have hns25_0 := NB413_425.out
                    have hms25_0 := NB425_413.out
                    have hs26 : w17.cell? ⟨gb425, 8, none⟩ = some (.int .i64 0) := (blk_cell BK425.out 8).trans rfl
                    have hfs26 := blk_frozen BK425.out 8
                    have hns26_0 := NB413_425.out
                    have hms26_0 := NB425_413.out
                    have hs27 : w17.cell? ⟨gb425, 9, none⟩ = some (.int .i64 0) := (blk_cell BK425.out 9).trans rfl
                    have hfs27 := blk_frozen BK425.out 9
                    have hns27_0 := NB413_425.out
                    have hms27_0 := NB425_413.out
                    refine skip_ (w1 := ?_) (by rfl) rfl ?_ ?_
                    rotate_left
                    · go_simp
                      rfl
                    refine hK.out _ _ ⟨(headgateref15_Decode.far10 (g := gb425) (by first | exact HNE0_425 | exact Kd.own_blk (Kd.R_ne HO_4.out BK425.out (by decide)) | (rw [add_block]; exact Kd.own_blk (Kd.R_ne HO_4.out BK425.out (by decide))) | (show (Addr.add _ _).block ≠ _; rw [add_block]; exact Kd.own_blk (Kd.R_ne HO_4.out BK425.out (by decide))) | (dsimp only; exact Kd.own_blk (Kd.R_ne HO_4.out BK425.out (by decide)))) (hHeld.1)), (headgateref15_Decode.far10 (g := gb425) (by first | exact HNE1_425 | exact Kd.own_blk (Kd.R_ne HO_4.out BK425.out (by decide)) | (rw [add_block]; exact Kd.own_blk (Kd.R_ne HO_4.out BK425.out (by decide))) | (show (Addr.add _ _).block ≠ _; rw [add_block]; exact Kd.own_blk (Kd.R_ne HO_4.out BK425.out (by decide))) | (dsimp only; exact Kd.own_blk (Kd.R_ne HO_4.out BK425.out (by decide)))) (hHeld.2.1)), (headgateref15_Decode.far10 (g := gb425) (by first | exact HNE2_425 | exact Kd.own_blk (Kd.R_ne HO_4.out BK425.out (by decide)) | (rw [add_block]; exact Kd.own_blk (Kd.R_ne HO_4.out BK425.out (by decide))) | (show (Addr.add _ _).block ≠ _; rw [add_block]; exact Kd.own_blk (Kd.R_ne HO_4.out BK425.out (by decide))) | (dsimp only; exact Kd.own_blk (Kd.R_ne HO_4.out BK425.out (by decide)))) (hHeld.2.2.1)), (headgateref15_Decode.far10 (g := gb425) (by first | exact HNE3_425 | exact Kd.own_blk (Kd.R_ne HO_4.out BK425.out (by decide)) | (rw [add_block]; exact Kd.own_blk (Kd.R_ne HO_4.out BK425.out (by decide))) | (show (Addr.add _ _).block ≠ _; rw [add_block]; exact Kd.own_blk (Kd.R_ne HO_4.out BK425.out (by decide))) | (dsimp only; exact Kd.own_blk (Kd.R_ne HO_4.out BK425.out (by decide)))) (hHeld.2.2.2.1)), (headgateref15_Decode.far10 (g := gb425) (by first | exact HNE4_425 | exact Kd.own_blk (Kd.R_ne HO_4.out BK425.out (by decide)) | (rw [add_block]; exact Kd.own_blk (Kd.R_ne HO_4.out BK425.out (by decide))) | (show (Addr.add _ _).block ≠ _; rw [add_block]; exact Kd.own_blk (Kd.R_ne HO_4.out BK425.out (by decide))) | (dsimp only; exact Kd.own_blk (Kd.R_ne HO_4.out BK425.out (by decide)))) (hHeld.2.2.2.2.1)), (headgateref15_Decode.far10 (g := gb425) (by first | exact HNE5_425 | exact Kd.own_blk (Kd.R_ne HO_4.out BK425.out (by decide)) | (rw [add_block]; exact Kd.own_blk (Kd.R_ne HO_4.out BK425.out (by decide))) | (show (Addr.add _ _).block ≠ _; rw [add_block]; exact Kd.own_blk (Kd.R_ne HO_4.out BK425.out (by decide))) | (dsimp only; exact Kd.own_blk (Kd.R_ne HO_4.out BK425.out (by decide)))) (hHeld.2.2.2.2.2))⟩ (fun hHeld => ?_)
                    clear hK K
                    refine done_ (done_of HT_.out (by kernel_rfl)) ?_
                    try go_wp2
                    go_loopg [8] kj2 (fun kq v8 w' => ∃ (x8_2 : Int) (x426004_2 : Int) (x426005_2 : Int) (x426006_2 : Int) (x426007_2 : Int), v8 = .int .i64 x8_2 ∧ Aside0 (headgateref15_Decode.l0 kq t414 x8_2 (rd t414 0) (rd t414 1) (rd t414 2) (rd t414 3) x426004_2 x426005_2 x426006_2 x426007_2 (rd t414 8) (rd t414 9) = some (r1, r2, r3, r4, r5, r6, r7, r8, r9, r10, r11)) ∧ Aside0 (kq ≤ kj2) ∧ Aside0 (Kd.R (Kd.int .i64) 3 w' w.heap.size (fun _ => True) (.slice (some ad419) t414.length co16) t414) ∧ Aside0 (w'.heap[gb413]? = some (.cells #[.int .i64 0, .int .i64 0, .int .i64 0, .int .i64 0, .int .i64 0, .int .i64 0, .int .i64 0, .int .i64 0, .int .i64 0, .int .i64 0] 24 (0, 0))) ∧ Aside0 (w'.heap[gb425]? = some (.cells #[.int .i64 (rd t414 0), .int .i64 (rd t414 1), .int .i64 (rd t414 2), .int .i64 (rd t414 3), .int .i64 x426004_2, .int .i64 x426005_2, .int .i64 x426006_2, .int .i64 x426007_2, .int .i64 (rd t414 8), .int .i64 (rd t414 9)] 24 (0, 0))) ∧ Aside0 (Below w.heap.size w w'))
                    case atStart => exact ⟨(0), (0), (0), (0), (0), (by first | rfl | (simp; done) | (simp [*]; done)), H', ⟨Nat.le_refl _⟩, ⟨by (with_reducible repeat (first | apply Kd.R_alloc | apply Kd.R_drewN | apply Kd.R_drew)); exact Kd.R_mono (Kd.R_far (p := ⟨gb425, 9, none⟩) (Kd.R_far (p := ⟨gb425, 8, none⟩) (Kd.R_far (p := ⟨gb425, 7, none⟩) (Kd.R_far (p := ⟨gb425, 6, none⟩) (Kd.R_far (p := ⟨gb425, 5, none⟩) (Kd.R_far (p := ⟨gb425, 4, none⟩) (Kd.R_far (p := ⟨gb425, 3, none⟩) (Kd.R_far (p := ⟨gb425, 2, none⟩) (Kd.R_far (p := ⟨gb425, 1, none⟩) (Kd.R_far (p := ⟨gb425, 0, none⟩) (Kd.R_types HO_4.out BK425.out (by decide)) (fun _ hk => hk.2) (.int .i64 (rd t414 0))) (fun _ hk => hk.2) (.int .i64 (rd t414 1))) (fun _ hk => hk.2) (.int .i64 (rd t414 2))) (fun _ hk => hk.2) (.int .i64 (rd t414 3))) (fun _ hk => hk.2) (.int .i64 0)) (fun _ hk => hk.2) (.int .i64 0)) (fun _ hk => hk.2) (.int .i64 0)) (fun _ hk => hk.2) (.int .i64 0)) (fun _ hk => hk.2) (.int .i64 (rd t414 8))) (fun _ hk => hk.2) (.int .i64 (rd t414 9))) (fun _ hk => trivial)⟩, ⟨by (with_reducible repeat (first | refine blk_drewN ?_ _ | refine blk_drew ?_ | refine blk_alloc ?_ _)); refine blk_far ?_ NB413_425.out _; (with_reducible repeat (first | refine blk_drewN ?_ _ | refine blk_drew ?_ | refine blk_alloc ?_ _)); refine blk_far ?_ NB413_425.out _; (with_reducible repeat (first | refine blk_drewN ?_ _ | refine blk_drew ?_ | refine blk_alloc ?_ _)); refine blk_far ?_ NB413_425.out _; (with_reducible repeat (first | refine blk_drewN ?_ _ | refine blk_drew ?_ | refine blk_alloc ?_ _)); refine blk_far ?_ NB413_425.out _; (with_reducible repeat (first | refine blk_drewN ?_ _ | refine blk_drew ?_ | refine blk_alloc ?_ _)); refine blk_far ?_ NB413_425.out _; (with_reducible repeat (first | refine blk_drewN ?_ _ | refine blk_drew ?_ | refine blk_alloc ?_ _)); refine blk_far ?_ NB413_425.out _; (with_reducible repeat (first | refine blk_drewN ?_ _ | refine blk_drew ?_ | refine blk_alloc ?_ _)); refine blk_far ?_ NB413_425.out _; (with_reducible repeat (first | refine blk_drewN ?_ _ | refine blk_drew ?_ | refine blk_alloc ?_ _)); refine blk_far ?_ NB413_425.out _; (with_reducible repeat (first | refine blk_drewN ?_ _ | refine blk_drew ?_ | refine blk_alloc ?_ _)); refine blk_far ?_ NB413_425.out _; (with_reducible repeat (first | refine blk_drewN ?_ _ | refine blk_drew ?_ | refine blk_alloc ?_ _)); refine blk_far ?_ NB413_425.out _; (with_reducible repeat (first | refine blk_drewN ?_ _ | refine blk_drew ?_ | refine blk_alloc ?_ _)); exact BK413.out⟩, ⟨by (with_reducible repeat (first | refine blk_drewN ?_ _ | refine blk_drew ?_ | refine blk_alloc ?_ _)); refine blk_put (cs := #[.int .i64 (rd t414 0), .int .i64 (rd t414 1), .int .i64 (rd t414 2), .int .i64 (rd t414 3), .int .i64 0, .int .i64 0, .int .i64 0, .int .i64 0, .int .i64 (rd t414 8), .int .i64 0]) ?_ 9 _ rfl; (with_reducible repeat (first | refine blk_drewN ?_ _ | refine blk_drew ?_ | refine blk_alloc ?_ _)); refine blk_put (cs := #[.int .i64 (rd t414 0), .int .i64 (rd t414 1), .int .i64 (rd t414 2), .int .i64 (rd t414 3), .int .i64 0, .int .i64 0, .int .i64 0, .int .i64 0, .int .i64 0, .int .i64 0]) ?_ 8 _ rfl; (with_reducible repeat (first | refine blk_drewN ?_ _ | refine blk_drew ?_ | refine blk_alloc ?_ _)); refine blk_put (cs := #[.int .i64 (rd t414 0), .int .i64 (rd t414 1), .int .i64 (rd t414 2), .int .i64 (rd t414 3), .int .i64 0, .int .i64 0, .int .i64 0, .int .i64 0, .int .i64 0, .int .i64 0]) ?_ 7 _ rfl; (with_reducible repeat (first | refine blk_drewN ?_ _ | refine blk_drew ?_ | refine blk_alloc ?_ _)); refine blk_put (cs := #[.int .i64 (rd t414 0), .int .i64 (rd t414 1), .int .i64 (rd t414 2), .int .i64 (rd t414 3), .int .i64 0, .int .i64 0, .int .i64 0, .int .i64 0, .int .i64 0, .int .i64 0]) ?_ 6 _ rfl; (with_reducible repeat (first | refine blk_drewN ?_ _ | refine blk_drew ?_ | refine blk_alloc ?_ _)); refine blk_put (cs := #[.int .i64 (rd t414 0), .int .i64 (rd t414 1), .int .i64 (rd t414 2), .int .i64 (rd t414 3), .int .i64 0, .int .i64 0, .int .i64 0, .int .i64 0, .int .i64 0, .int .i64 0]) ?_ 5 _ rfl; (with_reducible repeat (first | refine blk_drewN ?_ _ | refine blk_drew ?_ | refine blk_alloc ?_ _)); refine blk_put (cs := #[.int .i64 (rd t414 0), .int .i64 (rd t414 1), .int .i64 (rd t414 2), .int .i64 (rd t414 3), .int .i64 0, .int .i64 0, .int .i64 0, .int .i64 0, .int .i64 0, .int .i64 0]) ?_ 4 _ rfl; (with_reducible repeat (first | refine blk_drewN ?_ _ | refine blk_drew ?_ | refine blk_alloc ?_ _)); refine blk_put (cs := #[.int .i64 (rd t414 0), .int .i64 (rd t414 1), .int .i64 (rd t414 2), .int .i64 0, .int .i64 0, .int .i64 0, .int .i64 0, .int .i64 0, .int .i64 0, .int .i64 0]) ?_ 3 _ rfl; (with_reducible repeat (first | refine blk_drewN ?_ _ | refine blk_drew ?_ | refine blk_alloc ?_ _)); refine blk_put (cs := #[.int .i64 (rd t414 0), .int .i64 (rd t414 1), .int .i64 0, .int .i64 0, .int .i64 0, .int .i64 0, .int .i64 0, .int .i64 0, .int .i64 0, .int .i64 0]) ?_ 2 _ rfl; (with_reducible repeat (first | refine blk_drewN ?_ _ | refine blk_drew ?_ | refine blk_alloc ?_ _)); refine blk_put (cs := #[.int .i64 (rd t414 0), .int .i64 0, .int .i64 0, .int .i64 0, .int .i64 0, .int .i64 0, .int .i64 0, .int .i64 0, .int .i64 0, .int .i64 0]) ?_ 1 _ rfl; (with_reducible repeat (first | refine blk_drewN ?_ _ | refine blk_drew ?_ | refine blk_alloc ?_ _)); refine blk_put (cs := #[.int .i64 0, .int .i64 0, .int .i64 0, .int .i64 0, .int .i64 0, .int .i64 0, .int .i64 0, .int .i64 0, .int .i64 0, .int .i64 0]) ?_ 0 _ rfl; (with_reducible repeat (first | refine blk_drewN ?_ _ | refine blk_drew ?_ | refine blk_alloc ?_ _)); exact BK425.out⟩, ⟨by repeat (first | (with_reducible first | exact HB.out | apply below_alloc | apply pw_below_drewN | apply below_drew1 | refine below_set ?_ GE413.out | refine below_set ?_ GE425.out) | exact HB.out)⟩⟩
                    case round =>
                      clear H'
                      try clear c1
                      try clear c2
                      try clear p2
                      try clear c3
                      try clear p4
                      try clear q4
                      try clear hx4
                      try clear qi4
                      try clear c6
                      try clear c6b0
                      try clear c6b1
                      try clear c7
                      try clear c9
                      try clear c9b0
                      try clear c9b1
                      try clear c10
                      try clear c10b0
                      try clear c10b1
                      try clear c11
                      try clear c11b0
                      try clear c11b1
                      try clear c12
                      try clear c12b0
                      try clear c12b1
                      try clear c13
                      try clear c13b0
                      try clear c13b1
                      try clear c14
                      try clear c14b0
                      try clear c14b1
                      try clear c21
                      try clear hcz8_0
                      try clear hcz8_1
                      try clear hcz8_2
                      try clear hcz8_3
                      try clear hcz8_4
                      try clear hcz8_5
                      try clear hcz8_6
                      try clear hcz8_7
                      try clear hcz8_8
                      try clear hcz8_9
                      try clear hfz8_0
                      try clear hfz8_1
                      try clear hfz8_2
                      try clear hfz8_3
                      try clear hfz8_4
                      try clear hfz8_5
                      try clear hfz8_6
                      try clear hfz8_7
                      try clear hfz8_8
                      try clear hfz8_9
                      try clear hx419_0
                      try clear hx420_0
                      try clear hx421_0
                      try clear hx422_0
                      try clear hx423_0
                      try clear hx424_0
                      try clear p2
                      try clear p419
                      try clear p420
                      try clear p421
                      try clear p422
                      try clear p423
                      try clear p424
                      try clear q419
                      try clear q420
                      try clear q421
                      try clear q422
                      try clear q423
                      try clear q424
                      obtain ⟨x8_2, x426004_2, x426005_2, x426006_2, x426007_2, rfl, HA, HK2, HO_4, BK413, BK425, HB⟩ := hrel
                      cases gk with
                      | zero => exact absurd HA.out (by simp [headgateref15_Decode.l0])
                      | succ k2 =>
                        have H := HA.out
                        clear HA
                        simp only [headgateref15_Decode.l0] at H
                        by_cases c28 : x8_2 < 4
                        · rw [if_pos c28] at H
                          have c28b0 : decide (x8_2 < 4) = true := decide_eq_true c28
                          clear c28
                          obtain ⟨ji29, hji29⟩ : ∃ j_ : Int, (wrap64 (4 + x8_2)) = j_ := ⟨_, rfl⟩
                          replace H : (if 0 ≤ (ji29) then (if (ji29) < (t414.length : Int) then (if x8_2 = 0 then (headgateref15_Decode.l0 k2 t414 (wrap64 (x8_2 + 1)) (rd t414 0) (rd t414 1) (rd t414 2) (rd t414 3) (rd t414 (ji29)) x426005_2 x426006_2 x426007_2 (rd t414 8) (rd t414 9)) else (if x8_2 = 1 then (headgateref15_Decode.l0 k2 t414 (wrap64 (x8_2 + 1)) (rd t414 0) (rd t414 1) (rd t414 2) (rd t414 3) x426004_2 (rd t414 (ji29)) x426006_2 x426007_2 (rd t414 8) (rd t414 9)) else (if x8_2 = 2 then (headgateref15_Decode.l0 k2 t414 (wrap64 (x8_2 + 1)) (rd t414 0) (rd t414 1) (rd t414 2) (rd t414 3) x426004_2 x426005_2 (rd t414 (ji29)) x426007_2 (rd t414 8) (rd t414 9)) else (if x8_2 = 3 then (headgateref15_Decode.l0 k2 t414 (wrap64 (x8_2 + 1)) (rd t414 0) (rd t414 1) (rd t414 2) (rd t414 3) x426004_2 x426005_2 x426006_2 (rd t414 (ji29)) (rd t414 8) (rd t414 9)) else (none))))) else (none)) else (none)) = some (r1, r2, r3, r4, r5, r6, r7, r8, r9, r10, r11) := by first | (rw [hji29] at H; exact H) | (simp only [hji29] at H ⊢; exact H)
                          have hji29w : (IntKind.i64.wrap (4 + x8_2)) = ji29 := (i64_w _).trans hji29
                          by_cases c30 : 0 ≤ (ji29)
                          · rw [if_pos c30] at H
                            have c30b0 : decide (0 ≤ (ji29)) = true := decide_eq_true c30
                            clear c30
                            by_cases c31 : (ji29) < (t414.length : Int)
                            · rw [if_pos c31] at H
                              have c31b0 : decide ((ji29) < (t414.length : Int)) = true := decide_eq_true c31
                              clear c31
                              by_cases c32 : x8_2 = 0
                              · subst c32
                                have H1 : (headgateref15_Decode.l0 k2 t414 (wrap64 (0 + 1)) (rd t414 0) (rd t414 1) (rd t414 2) (rd t414 3) (rd t414 (ji29)) x426005_2 x426006_2 x426007_2 (rd t414 8) (rd t414 9)) = some (r1, r2, r3, r4, r5, r6, r7, r8, r9, r10, r11) := by rw [if_pos rfl] at H; exact H
                                clear H
                                have H := H1
                                clear H1
                                have eji29_ : ji29 = 4 := by rw [← hji29]; first | rfl | decide | simp [wrap64]
                                subst eji29_
                                clear hji29
                                (try clear hji29w)
                                have H' := Aside0.mk H
                                clear H
                                have p426 : 0 ≤ (4 : Int) := (by omega)
                                have q426 : 4 < (t414.length : Int) := of_decide_eq_true (by first | (with_reducible assumption) | assumption)
                                obtain ⟨ad426, e426, hx426_0⟩ := Kd.at_int (Kd.R_reads' HO_4.out).2.2 4 p426 q426
                                obtain rfl : ad419 = ad426 := (by injection e426)
                                (try simp only [show (4 : Int).toNat = 4 from rfl, Nat.reduceMul, Nat.reduceEqDiff, Go.Addr.add, ↓reduceIte] at hx426_0)
                                have qi426 : (4 < t414.length) = True := eq_true (by omega)
                                (try rw [show ((4 : Int)).toNat = 4 from rfl] at hx426_0)
                                replace p426 := eq_true p426
                                replace q426 := eq_true q426
                                have hnb33 := NB425_413.out
                                have hnc33 := NB413_425.out
                                have hcz34_0 : wr.cell? ⟨gb425, 0, none⟩ = some (.int .i64 (rd t414 0)) := (blk_cell BK425.out 0).trans rfl
                                have hcz34_1 : wr.cell? ⟨gb425, 1, none⟩ = some (.int .i64 (rd t414 1)) := (blk_cell BK425.out 1).trans rfl
                                have hcz34_2 : wr.cell? ⟨gb425, 2, none⟩ = some (.int .i64 (rd t414 2)) := (blk_cell BK425.out 2).trans rfl
                                have hcz34_3 : wr.cell? ⟨gb425, 3, none⟩ = some (.int .i64 (rd t414 3)) := (blk_cell BK425.out 3).trans rfl
                                have hcz34_4 : wr.cell? ⟨gb425, 4, none⟩ = some (.int .i64 x426004_2) := (blk_cell BK425.out 4).trans rfl
                                have hcz34_5 : wr.cell? ⟨gb425, 5, none⟩ = some (.int .i64 x426005_2) := (blk_cell BK425.out 5).trans rfl
                                have hcz34_6 : wr.cell? ⟨gb425, 6, none⟩ = some (.int .i64 x426006_2) := (blk_cell BK425.out 6).trans rfl
                                have hcz34_7 : wr.cell? ⟨gb425, 7, none⟩ = some (.int .i64 x426007_2) := (blk_cell BK425.out 7).trans rfl
                                have hcz34_8 : wr.cell? ⟨gb425, 8, none⟩ = some (.int .i64 (rd t414 8)) := (blk_cell BK425.out 8).trans rfl
                                have hcz34_9 : wr.cell? ⟨gb425, 9, none⟩ = some (.int .i64 (rd t414 9)) := (blk_cell BK425.out 9).trans rfl
                                have hfz34_0 := blk_frozen BK425.out 0
                                have hfz34_1 := blk_frozen BK425.out 1
                                have hfz34_2 := blk_frozen BK425.out 2
                                have hfz34_3 := blk_frozen BK425.out 3
                                have hfz34_4 := blk_frozen BK425.out 4
                                have hfz34_5 := blk_frozen BK425.out 5
                                have hfz34_6 := blk_frozen BK425.out 6
                                have hfz34_7 := blk_frozen BK425.out 7
                                have hfz34_8 := blk_frozen BK425.out 8
                                have hfz34_9 := blk_frozen BK425.out 9
                                go_wp2
                                go_roundg k2
                                case measure => have := HJ2.out; have := HK2.out; omega
                                case rel => exact ⟨(wrap64 (0 + 1)), (rd t414 4), (x426005_2), (x426006_2), (x426007_2), (by first | rfl | (simp; done) | (simp [*]; done) | (simp [wrap64]; done)), H', ⟨by have := HJ2.out; have := HK2.out; omega⟩, ⟨by (with_reducible repeat (first | apply Kd.R_alloc | apply Kd.R_drewN | apply Kd.R_drew)); exact Kd.R_mono (Kd.R_far (p := ⟨gb425, 4, none⟩) (Kd.R_types HO_4.out BK425.out (by decide)) (fun _ hk => hk.2) (.int .i64 (rd t414 4))) (fun _ hk => trivial)⟩, ⟨by (with_reducible repeat (first | refine blk_drewN ?_ _ | refine blk_drew ?_ | refine blk_alloc ?_ _)); refine blk_far ?_ NB413_425.out _; (with_reducible repeat (first | refine blk_drewN ?_ _ | refine blk_drew ?_ | refine blk_alloc ?_ _)); exact BK413.out⟩, ⟨by (with_reducible repeat (first | refine blk_drewN ?_ _ | refine blk_drew ?_ | refine blk_alloc ?_ _)); refine blk_put (cs := #[.int .i64 (rd t414 0), .int .i64 (rd t414 1), .int .i64 (rd t414 2), .int .i64 (rd t414 3), .int .i64 x426004_2, .int .i64 x426005_2, .int .i64 x426006_2, .int .i64 x426007_2, .int .i64 (rd t414 8), .int .i64 (rd t414 9)]) ?_ 4 _ rfl; (with_reducible repeat (first | refine blk_drewN ?_ _ | refine blk_drew ?_ | refine blk_alloc ?_ _)); exact BK425.out⟩, ⟨by repeat (first | (with_reducible first | exact HB.out | apply below_alloc | apply pw_below_drewN | apply below_drew1 | refine below_set ?_ GE413.out | refine below_set ?_ GE425.out) | exact HB.out)⟩⟩
                              · rw [if_neg c32] at H
                                have Nc32 := Aside0.mk c32
                                clear c32
                                by_cases c35 : x8_2 = 1
                                · subst c35
                                  have H1 : (headgateref15_Decode.l0 k2 t414 (wrap64 (1 + 1)) (rd t414 0) (rd t414 1) (rd t414 2) (rd t414 3) x426004_2 (rd t414 (ji29)) x426006_2 x426007_2 (rd t414 8) (rd t414 9)) = some (r1, r2, r3, r4, r5, r6, r7, r8, r9, r10, r11) := by rw [if_pos rfl] at H; exact H
                                  clear H
                                  have H := H1
                                  clear H1
                                  have eji29_ : ji29 = 5 := by rw [← hji29]; first | rfl | decide | simp [wrap64]
                                  subst eji29_
                                  clear hji29
                                  (try clear hji29w)
                                  have H' := Aside0.mk H
                                  clear H
                                  have p426 : 0 ≤ (5 : Int) := (by omega)
                                  have q426 : 5 < (t414.length : Int) := of_decide_eq_true (by first | (with_reducible assumption) | assumption)
                                  obtain ⟨ad426, e426, hx426_0⟩ := Kd.at_int (Kd.R_reads' HO_4.out).2.2 5 p426 q426
                                  obtain rfl : ad419 = ad426 := (by injection e426)
                                  (try simp only [show (5 : Int).toNat = 5 from rfl, Nat.reduceMul, Nat.reduceEqDiff, Go.Addr.add, ↓reduceIte] at hx426_0)
                                  have qi426 : (5 < t414.length) = True := eq_true (by omega)
                                  (try rw [show ((5 : Int)).toNat = 5 from rfl] at hx426_0)
                                  replace p426 := eq_true p426
                                  replace q426 := eq_true q426
                                  have hnb36 := NB425_413.out
                                  have hnc36 := NB413_425.out
                                  have hcz37_0 : wr.cell? ⟨gb425, 0, none⟩ = some (.int .i64 (rd t414 0)) := (blk_cell BK425.out 0).trans rfl
                                  have hcz37_1 : wr.cell? ⟨gb425, 1, none⟩ = some (.int .i64 (rd t414 1)) := (blk_cell BK425.out 1).trans rfl
                                  have hcz37_2 : wr.cell? ⟨gb425, 2, none⟩ = some (.int .i64 (rd t414 2)) := (blk_cell BK425.out 2).trans rfl
                                  have hcz37_3 : wr.cell? ⟨gb425, 3, none⟩ = some (.int .i64 (rd t414 3)) := (blk_cell BK425.out 3).trans rfl
                                  have hcz37_4 : wr.cell? ⟨gb425, 4, none⟩ = some (.int .i64 x426004_2) := (blk_cell BK425.out 4).trans rfl
                                  have hcz37_5 : wr.cell? ⟨gb425, 5, none⟩ = some (.int .i64 x426005_2) := (blk_cell BK425.out 5).trans rfl
                                  have hcz37_6 : wr.cell? ⟨gb425, 6, none⟩ = some (.int .i64 x426006_2) := (blk_cell BK425.out 6).trans rfl
                                  have hcz37_7 : wr.cell? ⟨gb425, 7, none⟩ = some (.int .i64 x426007_2) := (blk_cell BK425.out 7).trans rfl
                                  have hcz37_8 : wr.cell? ⟨gb425, 8, none⟩ = some (.int .i64 (rd t414 8)) := (blk_cell BK425.out 8).trans rfl
                                  have hcz37_9 : wr.cell? ⟨gb425, 9, none⟩ = some (.int .i64 (rd t414 9)) := (blk_cell BK425.out 9).trans rfl
                                  have hfz37_0 := blk_frozen BK425.out 0
                                  have hfz37_1 := blk_frozen BK425.out 1
                                  have hfz37_2 := blk_frozen BK425.out 2
                                  have hfz37_3 := blk_frozen BK425.out 3
                                  have hfz37_4 := blk_frozen BK425.out 4
                                  have hfz37_5 := blk_frozen BK425.out 5
                                  have hfz37_6 := blk_frozen BK425.out 6
                                  have hfz37_7 := blk_frozen BK425.out 7
                                  have hfz37_8 := blk_frozen BK425.out 8
                                  have hfz37_9 := blk_frozen BK425.out 9
                                  go_wp2
                                  go_roundg k2
                                  case measure => have := HJ2.out; have := HK2.out; omega
                                  case rel => exact ⟨(wrap64 (1 + 1)), (x426004_2), (rd t414 5), (x426006_2), (x426007_2), (by first | rfl | (simp; done) | (simp [*]; done) | (simp [wrap64]; done)), H', ⟨by have := HJ2.out; have := HK2.out; omega⟩, ⟨by (with_reducible repeat (first | apply Kd.R_alloc | apply Kd.R_drewN | apply Kd.R_drew)); exact Kd.R_mono (Kd.R_far (p := ⟨gb425, 5, none⟩) (Kd.R_types HO_4.out BK425.out (by decide)) (fun _ hk => hk.2) (.int .i64 (rd t414 5))) (fun _ hk => trivial)⟩, ⟨by (with_reducible repeat (first | refine blk_drewN ?_ _ | refine blk_drew ?_ | refine blk_alloc ?_ _)); refine blk_far ?_ NB413_425.out _; (with_reducible repeat (first | refine blk_drewN ?_ _ | refine blk_drew ?_ | refine blk_alloc ?_ _)); exact BK413.out⟩, ⟨by (with_reducible repeat (first | refine blk_drewN ?_ _ | refine blk_drew ?_ | refine blk_alloc ?_ _)); refine blk_put (cs := #[.int .i64 (rd t414 0), .int .i64 (rd t414 1), .int .i64 (rd t414 2), .int .i64 (rd t414 3), .int .i64 x426004_2, .int .i64 x426005_2, .int .i64 x426006_2, .int .i64 x426007_2, .int .i64 (rd t414 8), .int .i64 (rd t414 9)]) ?_ 5 _ rfl; (with_reducible repeat (first | refine blk_drewN ?_ _ | refine blk_drew ?_ | refine blk_alloc ?_ _)); exact BK425.out⟩, ⟨by repeat (first | (with_reducible first | exact HB.out | apply below_alloc | apply pw_below_drewN | apply below_drew1 | refine below_set ?_ GE413.out | refine below_set ?_ GE425.out) | exact HB.out)⟩⟩
                                · rw [if_neg c35] at H
                                  have Nc35 := Aside0.mk c35
                                  clear c35
                                  by_cases c38 : x8_2 = 2
                                  · subst c38
                                    have H1 : (headgateref15_Decode.l0 k2 t414 (wrap64 (2 + 1)) (rd t414 0) (rd t414 1) (rd t414 2) (rd t414 3) x426004_2 x426005_2 (rd t414 (ji29)) x426007_2 (rd t414 8) (rd t414 9)) = some (r1, r2, r3, r4, r5, r6, r7, r8, r9, r10, r11) := by rw [if_pos rfl] at H; exact H
                                    clear H
                                    have H := H1
                                    clear H1
                                    have eji29_ : ji29 = 6 := by rw [← hji29]; first | rfl | decide | simp [wrap64]
                                    subst eji29_
                                    clear hji29
                                    (try clear hji29w)
                                    have H' := Aside0.mk H
                                    clear H
                                    have p426 : 0 ≤ (6 : Int) := (by omega)
                                    have q426 : 6 < (t414.length : Int) := of_decide_eq_true (by first | (with_reducible assumption) | assumption)
                                    obtain ⟨ad426, e426, hx426_0⟩ := Kd.at_int (Kd.R_reads' HO_4.out).2.2 6 p426 q426
                                    obtain rfl : ad419 = ad426 := (by injection e426)
                                    (try simp only [show (6 : Int).toNat = 6 from rfl, Nat.reduceMul, Nat.reduceEqDiff, Go.Addr.add, ↓reduceIte] at hx426_0)
                                    have qi426 : (6 < t414.length) = True := eq_true (by omega)
                                    (try rw [show ((6 : Int)).toNat = 6 from rfl] at hx426_0)
                                    replace p426 := eq_true p426
                                    replace q426 := eq_true q426
                                    have hnb39 := NB425_413.out
                                    have hnc39 := NB413_425.out
                                    have hcz40_0 : wr.cell? ⟨gb425, 0, none⟩ = some (.int .i64 (rd t414 0)) := (blk_cell BK425.out 0).trans rfl
                                    have hcz40_1 : wr.cell? ⟨gb425, 1, none⟩ = some (.int .i64 (rd t414 1)) := (blk_cell BK425.out 1).trans rfl
                                    have hcz40_2 : wr.cell? ⟨gb425, 2, none⟩ = some (.int .i64 (rd t414 2)) := (blk_cell BK425.out 2).trans rfl
                                    have hcz40_3 : wr.cell? ⟨gb425, 3, none⟩ = some (.int .i64 (rd t414 3)) := (blk_cell BK425.out 3).trans rfl
                                    have hcz40_4 : wr.cell? ⟨gb425, 4, none⟩ = some (.int .i64 x426004_2) := (blk_cell BK425.out 4).trans rfl
                                    have hcz40_5 : wr.cell? ⟨gb425, 5, none⟩ = some (.int .i64 x426005_2) := (blk_cell BK425.out 5).trans rfl
                                    have hcz40_6 : wr.cell? ⟨gb425, 6, none⟩ = some (.int .i64 x426006_2) := (blk_cell BK425.out 6).trans rfl
                                    have hcz40_7 : wr.cell? ⟨gb425, 7, none⟩ = some (.int .i64 x426007_2) := (blk_cell BK425.out 7).trans rfl
                                    have hcz40_8 : wr.cell? ⟨gb425, 8, none⟩ = some (.int .i64 (rd t414 8)) := (blk_cell BK425.out 8).trans rfl
                                    have hcz40_9 : wr.cell? ⟨gb425, 9, none⟩ = some (.int .i64 (rd t414 9)) := (blk_cell BK425.out 9).trans rfl
                                    have hfz40_0 := blk_frozen BK425.out 0
                                    have hfz40_1 := blk_frozen BK425.out 1
                                    have hfz40_2 := blk_frozen BK425.out 2
                                    have hfz40_3 := blk_frozen BK425.out 3
                                    have hfz40_4 := blk_frozen BK425.out 4
                                    have hfz40_5 := blk_frozen BK425.out 5
                                    have hfz40_6 := blk_frozen BK425.out 6
                                    have hfz40_7 := blk_frozen BK425.out 7
                                    have hfz40_8 := blk_frozen BK425.out 8
                                    have hfz40_9 := blk_frozen BK425.out 9
                                    go_wp2
                                    go_roundg k2
                                    case measure => have := HJ2.out; have := HK2.out; omega
                                    case rel => exact ⟨(wrap64 (2 + 1)), (x426004_2), (x426005_2), (rd t414 6), (x426007_2), (by first | rfl | (simp; done) | (simp [*]; done) | (simp [wrap64]; done)), H', ⟨by have := HJ2.out; have := HK2.out; omega⟩, ⟨by (with_reducible repeat (first | apply Kd.R_alloc | apply Kd.R_drewN | apply Kd.R_drew)); exact Kd.R_mono (Kd.R_far (p := ⟨gb425, 6, none⟩) (Kd.R_types HO_4.out BK425.out (by decide)) (fun _ hk => hk.2) (.int .i64 (rd t414 6))) (fun _ hk => trivial)⟩, ⟨by (with_reducible repeat (first | refine blk_drewN ?_ _ | refine blk_drew ?_ | refine blk_alloc ?_ _)); refine blk_far ?_ NB413_425.out _; (with_reducible repeat (first | refine blk_drewN ?_ _ | refine blk_drew ?_ | refine blk_alloc ?_ _)); exact BK413.out⟩, ⟨by (with_reducible repeat (first | refine blk_drewN ?_ _ | refine blk_drew ?_ | refine blk_alloc ?_ _)); refine blk_put (cs := #[.int .i64 (rd t414 0), .int .i64 (rd t414 1), .int .i64 (rd t414 2), .int .i64 (rd t414 3), .int .i64 x426004_2, .int .i64 x426005_2, .int .i64 x426006_2, .int .i64 x426007_2, .int .i64 (rd t414 8), .int .i64 (rd t414 9)]) ?_ 6 _ rfl; (with_reducible repeat (first | refine blk_drewN ?_ _ | refine blk_drew ?_ | refine blk_alloc ?_ _)); exact BK425.out⟩, ⟨by repeat (first | (with_reducible first | exact HB.out | apply below_alloc | apply pw_below_drewN | apply below_drew1 | refine below_set ?_ GE413.out | refine below_set ?_ GE425.out) | exact HB.out)⟩⟩
                                  · rw [if_neg c38] at H
                                    have Nc38 := Aside0.mk c38
                                    clear c38
                                    by_cases c41 : x8_2 = 3
                                    · subst c41
                                      have H1 : (headgateref15_Decode.l0 k2 t414 (wrap64 (3 + 1)) (rd t414 0) (rd t414 1) (rd t414 2) (rd t414 3) x426004_2 x426005_2 x426006_2 (rd t414 (ji29)) (rd t414 8) (rd t414 9)) = some (r1, r2, r3, r4, r5, r6, r7, r8, r9, r10, r11) := by rw [if_pos rfl] at H; exact H
                                      clear H
                                      have H := H1
                                      clear H1
                                      have eji29_ : ji29 = 7 := by rw [← hji29]; first | rfl | decide | simp [wrap64]
                                      subst eji29_
                                      clear hji29
                                      (try clear hji29w)
                                      have H' := Aside0.mk H
                                      clear H
                                      have p426 : 0 ≤ (7 : Int) := (by omega)
                                      have q426 : 7 < (t414.length : Int) := of_decide_eq_true (by first | (with_reducible assumption) | assumption)
                                      obtain ⟨ad426, e426, hx426_0⟩ := Kd.at_int (Kd.R_reads' HO_4.out).2.2 7 p426 q426
                                      obtain rfl : ad419 = ad426 := (by injection e426)
                                      (try simp only [show (7 : Int).toNat = 7 from rfl, Nat.reduceMul, Nat.reduceEqDiff, Go.Addr.add, ↓reduceIte] at hx426_0)
                                      have qi426 : (7 < t414.length) = True := eq_true (by omega)
                                      (try rw [show ((7 : Int)).toNat = 7 from rfl] at hx426_0)
                                      replace p426 := eq_true p426
                                      replace q426 := eq_true q426
                                      have hnb42 := NB425_413.out
                                      have hnc42 := NB413_425.out
                                      have hcz43_0 : wr.cell? ⟨gb425, 0, none⟩ = some (.int .i64 (rd t414 0)) := (blk_cell BK425.out 0).trans rfl
                                      have hcz43_1 : wr.cell? ⟨gb425, 1, none⟩ = some (.int .i64 (rd t414 1)) := (blk_cell BK425.out 1).trans rfl
                                      have hcz43_2 : wr.cell? ⟨gb425, 2, none⟩ = some (.int .i64 (rd t414 2)) := (blk_cell BK425.out 2).trans rfl
                                      have hcz43_3 : wr.cell? ⟨gb425, 3, none⟩ = some (.int .i64 (rd t414 3)) := (blk_cell BK425.out 3).trans rfl
                                      have hcz43_4 : wr.cell? ⟨gb425, 4, none⟩ = some (.int .i64 x426004_2) := (blk_cell BK425.out 4).trans rfl
                                      have hcz43_5 : wr.cell? ⟨gb425, 5, none⟩ = some (.int .i64 x426005_2) := (blk_cell BK425.out 5).trans rfl
                                      have hcz43_6 : wr.cell? ⟨gb425, 6, none⟩ = some (.int .i64 x426006_2) := (blk_cell BK425.out 6).trans rfl
                                      have hcz43_7 : wr.cell? ⟨gb425, 7, none⟩ = some (.int .i64 x426007_2) := (blk_cell BK425.out 7).trans rfl
                                      have hcz43_8 : wr.cell? ⟨gb425, 8, none⟩ = some (.int .i64 (rd t414 8)) := (blk_cell BK425.out 8).trans rfl
                                      have hcz43_9 : wr.cell? ⟨gb425, 9, none⟩ = some (.int .i64 (rd t414 9)) := (blk_cell BK425.out 9).trans rfl
                                      have hfz43_0 := blk_frozen BK425.out 0
                                      have hfz43_1 := blk_frozen BK425.out 1
                                      have hfz43_2 := blk_frozen BK425.out 2
                                      have hfz43_3 := blk_frozen BK425.out 3
                                      have hfz43_4 := blk_frozen BK425.out 4
                                      have hfz43_5 := blk_frozen BK425.out 5
                                      have hfz43_6 := blk_frozen BK425.out 6
                                      have hfz43_7 := blk_frozen BK425.out 7
                                      have hfz43_8 := blk_frozen BK425.out 8
                                      have hfz43_9 := blk_frozen BK425.out 9
                                      go_wp2
                                      go_roundg k2
                                      case measure => have := HJ2.out; have := HK2.out; omega
                                      case rel => exact ⟨(wrap64 (3 + 1)), (x426004_2), (x426005_2), (x426006_2), (rd t414 7), (by first | rfl | (simp; done) | (simp [*]; done) | (simp [wrap64]; done)), H', ⟨by have := HJ2.out; have := HK2.out; omega⟩, ⟨by (with_reducible repeat (first | apply Kd.R_alloc | apply Kd.R_drewN | apply Kd.R_drew)); exact Kd.R_mono (Kd.R_far (p := ⟨gb425, 7, none⟩) (Kd.R_types HO_4.out BK425.out (by decide)) (fun _ hk => hk.2) (.int .i64 (rd t414 7))) (fun _ hk => trivial)⟩, ⟨by (with_reducible repeat (first | refine blk_drewN ?_ _ | refine blk_drew ?_ | refine blk_alloc ?_ _)); refine blk_far ?_ NB413_425.out _; (with_reducible repeat (first | refine blk_drewN ?_ _ | refine blk_drew ?_ | refine blk_alloc ?_ _)); exact BK413.out⟩, ⟨by (with_reducible repeat (first | refine blk_drewN ?_ _ | refine blk_drew ?_ | refine blk_alloc ?_ _)); refine blk_put (cs := #[.int .i64 (rd t414 0), .int .i64 (rd t414 1), .int .i64 (rd t414 2), .int .i64 (rd t414 3), .int .i64 x426004_2, .int .i64 x426005_2, .int .i64 x426006_2, .int .i64 x426007_2, .int .i64 (rd t414 8), .int .i64 (rd t414 9)]) ?_ 7 _ rfl; (with_reducible repeat (first | refine blk_drewN ?_ _ | refine blk_drew ?_ | refine blk_alloc ?_ _)); exact BK425.out⟩, ⟨by repeat (first | (with_reducible first | exact HB.out | apply below_alloc | apply pw_below_drewN | apply below_drew1 | refine below_set ?_ GE413.out | refine below_set ?_ GE425.out) | exact HB.out)⟩⟩
                                    · rw [if_neg c41] at H
                                      exact absurd H (by simp)
                            · rw [if_neg c31] at H
                              exact absurd H (by simp)
                          · rw [if_neg c30] at H
                            exact absurd H (by simp)
                        · rw [if_neg c28] at H
                          have c28b0 : decide (x8_2 < 4) = false := decide_eq_false c28
                          clear c28
                          replace H := Option.bind_eq_some_iff.mp H
                          obtain ⟨t427, A440, H⟩ := H
                          replace H : (if t427 = true then (some ((rd t414 0), (rd t414 1), (rd t414 2), (rd t414 3), x426004_2, x426005_2, x426006_2, x426007_2, (rd t414 8), (rd t414 9), 0)) else (some (0, 0, 0, 0, 0, 0, 0, 0, 0, 0, 2))) = some (r1, r2, r3, r4, r5, r6, r7, r8, r9, r10, r11) := H
                          have A44 := Aside0.mk A440
                          clear A440
                          by_cases c45 : t427 = true
                          · subst c45
                            have H1 : (some ((rd t414 0), (rd t414 1), (rd t414 2), (rd t414 3), x426004_2, x426005_2, x426006_2, x426007_2, (rd t414 8), (rd t414 9), 0)) = some (r1, r2, r3, r4, r5, r6, r7, r8, r9, r10, r11) := by rw [if_pos rfl] at H; exact H
                            clear H
                            have H := H1
                            clear H1
                            simp only [Option.some.injEq, Prod.mk.injEq] at H
                            obtain ⟨rfl, rfl, rfl, rfl, rfl, rfl, rfl, rfl, rfl, rfl, rfl⟩ := H
                            have hnb46 := NB425_413.out
                            have hnc46 := NB413_425.out
                            have hcz47_0 : wr.cell? ⟨gb425, 0, none⟩ = some (.int .i64 (rd t414 0)) := (blk_cell BK425.out 0).trans rfl
                            have hcz47_1 : wr.cell? ⟨gb425, 1, none⟩ = some (.int .i64 (rd t414 1)) := (blk_cell BK425.out 1).trans rfl
                            have hcz47_2 : wr.cell? ⟨gb425, 2, none⟩ = some (.int .i64 (rd t414 2)) := (blk_cell BK425.out 2).trans rfl
                            have hcz47_3 : wr.cell? ⟨gb425, 3, none⟩ = some (.int .i64 (rd t414 3)) := (blk_cell BK425.out 3).trans rfl
                            have hcz47_4 : wr.cell? ⟨gb425, 4, none⟩ = some (.int .i64 x426004_2) := (blk_cell BK425.out 4).trans rfl
                            have hcz47_5 : wr.cell? ⟨gb425, 5, none⟩ = some (.int .i64 x426005_2) := (blk_cell BK425.out 5).trans rfl
                            have hcz47_6 : wr.cell? ⟨gb425, 6, none⟩ = some (.int .i64 x426006_2) := (blk_cell BK425.out 6).trans rfl
                            have hcz47_7 : wr.cell? ⟨gb425, 7, none⟩ = some (.int .i64 x426007_2) := (blk_cell BK425.out 7).trans rfl
                            have hcz47_8 : wr.cell? ⟨gb425, 8, none⟩ = some (.int .i64 (rd t414 8)) := (blk_cell BK425.out 8).trans rfl
                            have hcz47_9 : wr.cell? ⟨gb425, 9, none⟩ = some (.int .i64 (rd t414 9)) := (blk_cell BK425.out 9).trans rfl
                            have hfz47_0 := blk_frozen BK425.out 0
                            have hfz47_1 := blk_frozen BK425.out 1
                            have hfz47_2 := blk_frozen BK425.out 2
                            have hfz47_3 := blk_frozen BK425.out 3
                            have hfz47_4 := blk_frozen BK425.out 4
                            have hfz47_5 := blk_frozen BK425.out 5
                            have hfz47_6 := blk_frozen BK425.out 6
                            have hfz47_7 := blk_frozen BK425.out 7
                            have hfz47_8 := blk_frozen BK425.out 8
                            have hfz47_9 := blk_frozen BK425.out 9
                            go_wp2_with (first | ((with_reducible refine gate_callee (f := 27) rfl ?_); refine goesL_ (some 55) rfl rfl Try.func27 (by kernel_rfl) rfl #[.agg #[.int .i64 (rd t414 0), .int .i64 (rd t414 1), .int .i64 (rd t414 2), .int .i64 (rd t414 3), .int .i64 x426004_2, .int .i64 x426005_2, .int .i64 x426006_2, .int .i64 x426007_2, .int .i64 (rd t414 8), .int .i64 (rd t414 9)]] rfl (by (try simp only [List.map_toArray, List.map_cons, List.map_nil]); first | done | rfl | (simp only [List.length_drop, List.length_take]; rfl)) ?_; (with_reducible refine (headgateref15_May.calls k2 (rd t414 0) (rd t414 1) (rd t414 2) (rd t414 3) x426004_2 x426005_2 x426006_2 x426007_2 (rd t414 8) (rd t414 9) true _ A44.out).mono ?_); rintro e w48 ⟨rfl, hb⟩; refine ⟨_, rfl, ?_⟩; have n0_ := Aside0.mk (Kd.R_below (by (with_reducible repeat (first | apply Kd.R_alloc | apply Kd.R_drewN | apply Kd.R_drew)); exact HO_4.out) hb); have n1_ := Aside0.mk (blk_below (g := gb413) (o := .cells #[.int .i64 0, .int .i64 0, .int .i64 0, .int .i64 0, .int .i64 0, .int .i64 0, .int .i64 0, .int .i64 0, .int .i64 0, .int .i64 0] 24 (0, 0)) (by (with_reducible repeat (first | refine blk_drewN ?_ _ | refine blk_drew ?_ | refine blk_alloc ?_ _)); exact BK413.out) hb); have n2_ := Aside0.mk (blk_below (g := gb425) (o := .cells #[.int .i64 (rd t414 0), .int .i64 (rd t414 1), .int .i64 (rd t414 2), .int .i64 (rd t414 3), .int .i64 x426004_2, .int .i64 x426005_2, .int .i64 x426006_2, .int .i64 x426007_2, .int .i64 (rd t414 8), .int .i64 (rd t414 9)] 24 (0, 0)) (by (with_reducible repeat (first | refine blk_drewN ?_ _ | refine blk_drew ?_ | refine blk_alloc ?_ _)); exact BK425.out) hb); have n3_ := Aside0.mk (below_step (by repeat (first | (with_reducible first | exact HB.out | apply below_alloc | apply pw_below_drewN | apply below_drew1 | refine below_set ?_ GE413.out | refine below_set ?_ GE425.out) | exact HB.out)) hb); clear HO_4; clear BK413; clear BK425; clear HB; have HO_4 := n0_; have BK413 := n1_; have BK425 := n2_; have HB := n3_; clear n0_ n1_ n2_ n3_; (try clear hb); (try clear hb2); (try clear hk); (try clear hi); have hcz49_0 : w48.cell? ⟨gb425, 0, none⟩ = some (.int .i64 (rd t414 0)) := (blk_cell BK425.out 0).trans rfl; have hcz49_1 : w48.cell? ⟨gb425, 1, none⟩ = some (.int .i64 (rd t414 1)) := (blk_cell BK425.out 1).trans rfl; have hcz49_2 : w48.cell? ⟨gb425, 2, none⟩ = some (.int .i64 (rd t414 2)) := (blk_cell BK425.out 2).trans rfl; have hcz49_3 : w48.cell? ⟨gb425, 3, none⟩ = some (.int .i64 (rd t414 3)) := (blk_cell BK425.out 3).trans rfl; have hcz49_4 : w48.cell? ⟨gb425, 4, none⟩ = some (.int .i64 x426004_2) := (blk_cell BK425.out 4).trans rfl; have hcz49_5 : w48.cell? ⟨gb425, 5, none⟩ = some (.int .i64 x426005_2) := (blk_cell BK425.out 5).trans rfl; have hcz49_6 : w48.cell? ⟨gb425, 6, none⟩ = some (.int .i64 x426006_2) := (blk_cell BK425.out 6).trans rfl; have hcz49_7 : w48.cell? ⟨gb425, 7, none⟩ = some (.int .i64 x426007_2) := (blk_cell BK425.out 7).trans rfl; have hcz49_8 : w48.cell? ⟨gb425, 8, none⟩ = some (.int .i64 (rd t414 8)) := (blk_cell BK425.out 8).trans rfl; have hcz49_9 : w48.cell? ⟨gb425, 9, none⟩ = some (.int .i64 (rd t414 9)) := (blk_cell BK425.out 9).trans rfl; have hfz49_0 := blk_frozen BK425.out 0; have hfz49_1 := blk_frozen BK425.out 1; have hfz49_2 := blk_frozen BK425.out 2; have hfz49_3 := blk_frozen BK425.out 3; have hfz49_4 := blk_frozen BK425.out 4; have hfz49_5 := blk_frozen BK425.out 5; have hfz49_6 := blk_frozen BK425.out 6; have hfz49_7 := blk_frozen BK425.out 7; have hfz49_8 := blk_frozen BK425.out 8; have hfz49_9 := blk_frozen BK425.out 9; have hcz50_0 : w48.cell? ⟨gb413, 0, none⟩ = some (.int .i64 0) := (blk_cell BK413.out 0).trans rfl; have hcz50_1 : w48.cell? ⟨gb413, 1, none⟩ = some (.int .i64 0) := (blk_cell BK413.out 1).trans rfl; have hcz50_2 : w48.cell? ⟨gb413, 2, none⟩ = some (.int .i64 0) := (blk_cell BK413.out 2).trans rfl; have hcz50_3 : w48.cell? ⟨gb413, 3, none⟩ = some (.int .i64 0) := (blk_cell BK413.out 3).trans rfl; have hcz50_4 : w48.cell? ⟨gb413, 4, none⟩ = some (.int .i64 0) := (blk_cell BK413.out 4).trans rfl; have hcz50_5 : w48.cell? ⟨gb413, 5, none⟩ = some (.int .i64 0) := (blk_cell BK413.out 5).trans rfl; have hcz50_6 : w48.cell? ⟨gb413, 6, none⟩ = some (.int .i64 0) := (blk_cell BK413.out 6).trans rfl; have hcz50_7 : w48.cell? ⟨gb413, 7, none⟩ = some (.int .i64 0) := (blk_cell BK413.out 7).trans rfl; have hcz50_8 : w48.cell? ⟨gb413, 8, none⟩ = some (.int .i64 0) := (blk_cell BK413.out 8).trans rfl; have hcz50_9 : w48.cell? ⟨gb413, 9, none⟩ = some (.int .i64 0) := (blk_cell BK413.out 9).trans rfl; have hfz50_0 := blk_frozen BK413.out 0; have hfz50_1 := blk_frozen BK413.out 1; have hfz50_2 := blk_frozen BK413.out 2; have hfz50_3 := blk_frozen BK413.out 3; have hfz50_4 := blk_frozen BK413.out 4; have hfz50_5 := blk_frozen BK413.out 5; have hfz50_6 := blk_frozen BK413.out 6; have hfz50_7 := blk_frozen BK413.out 7; have hfz50_8 := blk_frozen BK413.out 8; have hfz50_9 := blk_frozen BK413.out 9))
                            refine bodyPost_ret (results_ct rfl _ _ gb413 24 #[.int .i64 (rd t414 0), .int .i64 (rd t414 1), .int .i64 (rd t414 2), .int .i64 (rd t414 3), .int .i64 x426004_2, .int .i64 x426005_2, .int .i64 x426006_2, .int .i64 x426007_2, .int .i64 (rd t414 8), .int .i64 (rd t414 9)] (0, 0) _ rfl (by (with_reducible repeat (first | refine blk_drewN ?_ _ | refine blk_drew ?_ | refine blk_alloc ?_ _)); refine blk_put (cs := #[.int .i64 (rd t414 0), .int .i64 (rd t414 1), .int .i64 (rd t414 2), .int .i64 (rd t414 3), .int .i64 x426004_2, .int .i64 x426005_2, .int .i64 x426006_2, .int .i64 x426007_2, .int .i64 (rd t414 8), .int .i64 0]) ?_ 9 _ rfl; (with_reducible repeat (first | refine blk_drewN ?_ _ | refine blk_drew ?_ | refine blk_alloc ?_ _)); refine blk_put (cs := #[.int .i64 (rd t414 0), .int .i64 (rd t414 1), .int .i64 (rd t414 2), .int .i64 (rd t414 3), .int .i64 x426004_2, .int .i64 x426005_2, .int .i64 x426006_2, .int .i64 x426007_2, .int .i64 0, .int .i64 0]) ?_ 8 _ rfl; (with_reducible repeat (first | refine blk_drewN ?_ _ | refine blk_drew ?_ | refine blk_alloc ?_ _)); refine blk_put (cs := #[.int .i64 (rd t414 0), .int .i64 (rd t414 1), .int .i64 (rd t414 2), .int .i64 (rd t414 3), .int .i64 x426004_2, .int .i64 x426005_2, .int .i64 x426006_2, .int .i64 0, .int .i64 0, .int .i64 0]) ?_ 7 _ rfl; (with_reducible repeat (first | refine blk_drewN ?_ _ | refine blk_drew ?_ | refine blk_alloc ?_ _)); refine blk_put (cs := #[.int .i64 (rd t414 0), .int .i64 (rd t414 1), .int .i64 (rd t414 2), .int .i64 (rd t414 3), .int .i64 x426004_2, .int .i64 x426005_2, .int .i64 0, .int .i64 0, .int .i64 0, .int .i64 0]) ?_ 6 _ rfl; (with_reducible repeat (first | refine blk_drewN ?_ _ | refine blk_drew ?_ | refine blk_alloc ?_ _)); refine blk_put (cs := #[.int .i64 (rd t414 0), .int .i64 (rd t414 1), .int .i64 (rd t414 2), .int .i64 (rd t414 3), .int .i64 x426004_2, .int .i64 0, .int .i64 0, .int .i64 0, .int .i64 0, .int .i64 0]) ?_ 5 _ rfl; (with_reducible repeat (first | refine blk_drewN ?_ _ | refine blk_drew ?_ | refine blk_alloc ?_ _)); refine blk_put (cs := #[.int .i64 (rd t414 0), .int .i64 (rd t414 1), .int .i64 (rd t414 2), .int .i64 (rd t414 3), .int .i64 0, .int .i64 0, .int .i64 0, .int .i64 0, .int .i64 0, .int .i64 0]) ?_ 4 _ rfl; (with_reducible repeat (first | refine blk_drewN ?_ _ | refine blk_drew ?_ | refine blk_alloc ?_ _)); refine blk_put (cs := #[.int .i64 (rd t414 0), .int .i64 (rd t414 1), .int .i64 (rd t414 2), .int .i64 0, .int .i64 0, .int .i64 0, .int .i64 0, .int .i64 0, .int .i64 0, .int .i64 0]) ?_ 3 _ rfl; (with_reducible repeat (first | refine blk_drewN ?_ _ | refine blk_drew ?_ | refine blk_alloc ?_ _)); refine blk_put (cs := #[.int .i64 (rd t414 0), .int .i64 (rd t414 1), .int .i64 0, .int .i64 0, .int .i64 0, .int .i64 0, .int .i64 0, .int .i64 0, .int .i64 0, .int .i64 0]) ?_ 2 _ rfl; (with_reducible repeat (first | refine blk_drewN ?_ _ | refine blk_drew ?_ | refine blk_alloc ?_ _)); refine blk_put (cs := #[.int .i64 (rd t414 0), .int .i64 0, .int .i64 0, .int .i64 0, .int .i64 0, .int .i64 0, .int .i64 0, .int .i64 0, .int .i64 0, .int .i64 0]) ?_ 1 _ rfl; (with_reducible repeat (first | refine blk_drewN ?_ _ | refine blk_drew ?_ | refine blk_alloc ?_ _)); refine blk_put (cs := #[.int .i64 0, .int .i64 0, .int .i64 0, .int .i64 0, .int .i64 0, .int .i64 0, .int .i64 0, .int .i64 0, .int .i64 0, .int .i64 0]) ?_ 0 _ rfl; (with_reducible repeat (first | refine blk_drewN ?_ _ | refine blk_drew ?_ | refine blk_alloc ?_ _)); exact BK413.out) Try.underlying24 rfl (by kernel_rfl)) rfl ?_
                            exact ⟨by first | rfl | (simp [errW_none, errW_some] <;> rfl) | (simp [*, errW_none, errW_some] <;> rfl), by repeat (first | (with_reducible first | exact HB.out | apply below_alloc | apply pw_below_drewN | apply below_drew1 | refine below_set ?_ GE413.out | refine below_set ?_ GE425.out) | exact HB.out)⟩
                          · replace c45 := Bool.eq_false_iff.mpr c45
                            subst c45
                            have H1 : (some (0, 0, 0, 0, 0, 0, 0, 0, 0, 0, 2)) = some (r1, r2, r3, r4, r5, r6, r7, r8, r9, r10, r11) := by rw [if_neg (show ¬ (false = true) by decide)] at H; exact H
                            clear H
                            have H := H1
                            clear H1
                            simp only [Option.some.injEq, Prod.mk.injEq] at H
                            obtain ⟨rfl, rfl, rfl, rfl, rfl, rfl, rfl, rfl, rfl, rfl, rfl⟩ := H
                            have hnb51 := NB425_413.out
                            have hnc51 := NB413_425.out
                            have hcz52_0 : wr.cell? ⟨gb425, 0, none⟩ = some (.int .i64 (rd t414 0)) := (blk_cell BK425.out 0).trans rfl
                            have hcz52_1 : wr.cell? ⟨gb425, 1, none⟩ = some (.int .i64 (rd t414 1)) := (blk_cell BK425.out 1).trans rfl
                            have hcz52_2 : wr.cell? ⟨gb425, 2, none⟩ = some (.int .i64 (rd t414 2)) := (blk_cell BK425.out 2).trans rfl
                            have hcz52_3 : wr.cell? ⟨gb425, 3, none⟩ = some (.int .i64 (rd t414 3)) := (blk_cell BK425.out 3).trans rfl
                            have hcz52_4 : wr.cell? ⟨gb425, 4, none⟩ = some (.int .i64 x426004_2) := (blk_cell BK425.out 4).trans rfl
                            have hcz52_5 : wr.cell? ⟨gb425, 5, none⟩ = some (.int .i64 x426005_2) := (blk_cell BK425.out 5).trans rfl
                            have hcz52_6 : wr.cell? ⟨gb425, 6, none⟩ = some (.int .i64 x426006_2) := (blk_cell BK425.out 6).trans rfl
                            have hcz52_7 : wr.cell? ⟨gb425, 7, none⟩ = some (.int .i64 x426007_2) := (blk_cell BK425.out 7).trans rfl
                            have hcz52_8 : wr.cell? ⟨gb425, 8, none⟩ = some (.int .i64 (rd t414 8)) := (blk_cell BK425.out 8).trans rfl
                            have hcz52_9 : wr.cell? ⟨gb425, 9, none⟩ = some (.int .i64 (rd t414 9)) := (blk_cell BK425.out 9).trans rfl
                            have hfz52_0 := blk_frozen BK425.out 0
                            have hfz52_1 := blk_frozen BK425.out 1
                            have hfz52_2 := blk_frozen BK425.out 2
                            have hfz52_3 := blk_frozen BK425.out 3
                            have hfz52_4 := blk_frozen BK425.out 4
                            have hfz52_5 := blk_frozen BK425.out 5
                            have hfz52_6 := blk_frozen BK425.out 6
                            have hfz52_7 := blk_frozen BK425.out 7
                            have hfz52_8 := blk_frozen BK425.out 8
                            have hfz52_9 := blk_frozen BK425.out 9
                            go_wp2_with (first | ((with_reducible refine gate_callee (f := 27) rfl ?_); refine goesL_ (some 55) rfl rfl Try.func27 (by kernel_rfl) rfl #[.agg #[.int .i64 (rd t414 0), .int .i64 (rd t414 1), .int .i64 (rd t414 2), .int .i64 (rd t414 3), .int .i64 x426004_2, .int .i64 x426005_2, .int .i64 x426006_2, .int .i64 x426007_2, .int .i64 (rd t414 8), .int .i64 (rd t414 9)]] rfl (by (try simp only [List.map_toArray, List.map_cons, List.map_nil]); first | done | rfl | (simp only [List.length_drop, List.length_take]; rfl)) ?_; (with_reducible refine (headgateref15_May.calls k2 (rd t414 0) (rd t414 1) (rd t414 2) (rd t414 3) x426004_2 x426005_2 x426006_2 x426007_2 (rd t414 8) (rd t414 9) false _ A44.out).mono ?_); rintro e w53 ⟨rfl, hb⟩; refine ⟨_, rfl, ?_⟩; have n0_ := Aside0.mk (Kd.R_below (by (with_reducible repeat (first | apply Kd.R_alloc | apply Kd.R_drewN | apply Kd.R_drew)); exact HO_4.out) hb); have n1_ := Aside0.mk (blk_below (g := gb413) (o := .cells #[.int .i64 0, .int .i64 0, .int .i64 0, .int .i64 0, .int .i64 0, .int .i64 0, .int .i64 0, .int .i64 0, .int .i64 0, .int .i64 0] 24 (0, 0)) (by (with_reducible repeat (first | refine blk_drewN ?_ _ | refine blk_drew ?_ | refine blk_alloc ?_ _)); exact BK413.out) hb); have n2_ := Aside0.mk (blk_below (g := gb425) (o := .cells #[.int .i64 (rd t414 0), .int .i64 (rd t414 1), .int .i64 (rd t414 2), .int .i64 (rd t414 3), .int .i64 x426004_2, .int .i64 x426005_2, .int .i64 x426006_2, .int .i64 x426007_2, .int .i64 (rd t414 8), .int .i64 (rd t414 9)] 24 (0, 0)) (by (with_reducible repeat (first | refine blk_drewN ?_ _ | refine blk_drew ?_ | refine blk_alloc ?_ _)); exact BK425.out) hb); have n3_ := Aside0.mk (below_step (by repeat (first | (with_reducible first | exact HB.out | apply below_alloc | apply pw_below_drewN | apply below_drew1 | refine below_set ?_ GE413.out | refine below_set ?_ GE425.out) | exact HB.out)) hb); clear HO_4; clear BK413; clear BK425; clear HB; have HO_4 := n0_; have BK413 := n1_; have BK425 := n2_; have HB := n3_; clear n0_ n1_ n2_ n3_; (try clear hb); (try clear hb2); (try clear hk); (try clear hi); have hcz54_0 : w53.cell? ⟨gb413, 0, none⟩ = some (.int .i64 0) := (blk_cell BK413.out 0).trans rfl; have hcz54_1 : w53.cell? ⟨gb413, 1, none⟩ = some (.int .i64 0) := (blk_cell BK413.out 1).trans rfl; have hcz54_2 : w53.cell? ⟨gb413, 2, none⟩ = some (.int .i64 0) := (blk_cell BK413.out 2).trans rfl; have hcz54_3 : w53.cell? ⟨gb413, 3, none⟩ = some (.int .i64 0) := (blk_cell BK413.out 3).trans rfl; have hcz54_4 : w53.cell? ⟨gb413, 4, none⟩ = some (.int .i64 0) := (blk_cell BK413.out 4).trans rfl; have hcz54_5 : w53.cell? ⟨gb413, 5, none⟩ = some (.int .i64 0) := (blk_cell BK413.out 5).trans rfl; have hcz54_6 : w53.cell? ⟨gb413, 6, none⟩ = some (.int .i64 0) := (blk_cell BK413.out 6).trans rfl; have hcz54_7 : w53.cell? ⟨gb413, 7, none⟩ = some (.int .i64 0) := (blk_cell BK413.out 7).trans rfl; have hcz54_8 : w53.cell? ⟨gb413, 8, none⟩ = some (.int .i64 0) := (blk_cell BK413.out 8).trans rfl; have hcz54_9 : w53.cell? ⟨gb413, 9, none⟩ = some (.int .i64 0) := (blk_cell BK413.out 9).trans rfl; have hfz54_0 := blk_frozen BK413.out 0; have hfz54_1 := blk_frozen BK413.out 1; have hfz54_2 := blk_frozen BK413.out 2; have hfz54_3 := blk_frozen BK413.out 3; have hfz54_4 := blk_frozen BK413.out 4; have hfz54_5 := blk_frozen BK413.out 5; have hfz54_6 := blk_frozen BK413.out 6; have hfz54_7 := blk_frozen BK413.out 7; have hfz54_8 := blk_frozen BK413.out 8; have hfz54_9 := blk_frozen BK413.out 9))
                            refine bodyPost_ret (results_ct rfl _ _ gb413 24 #[.int .i64 0, .int .i64 0, .int .i64 0, .int .i64 0, .int .i64 0, .int .i64 0, .int .i64 0, .int .i64 0, .int .i64 0, .int .i64 0] (0, 0) _ rfl (by (with_reducible repeat (first | refine blk_drewN ?_ _ | refine blk_drew ?_ | refine blk_alloc ?_ _)); refine blk_put (cs := #[.int .i64 0, .int .i64 0, .int .i64 0, .int .i64 0, .int .i64 0, .int .i64 0, .int .i64 0, .int .i64 0, .int .i64 0, .int .i64 0]) ?_ 9 _ rfl; (with_reducible repeat (first | refine blk_drewN ?_ _ | refine blk_drew ?_ | refine blk_alloc ?_ _)); refine blk_put (cs := #[.int .i64 0, .int .i64 0, .int .i64 0, .int .i64 0, .int .i64 0, .int .i64 0, .int .i64 0, .int .i64 0, .int .i64 0, .int .i64 0]) ?_ 8 _ rfl; (with_reducible repeat (first | refine blk_drewN ?_ _ | refine blk_drew ?_ | refine blk_alloc ?_ _)); refine blk_put (cs := #[.int .i64 0, .int .i64 0, .int .i64 0, .int .i64 0, .int .i64 0, .int .i64 0, .int .i64 0, .int .i64 0, .int .i64 0, .int .i64 0]) ?_ 7 _ rfl; (with_reducible repeat (first | refine blk_drewN ?_ _ | refine blk_drew ?_ | refine blk_alloc ?_ _)); refine blk_put (cs := #[.int .i64 0, .int .i64 0, .int .i64 0, .int .i64 0, .int .i64 0, .int .i64 0, .int .i64 0, .int .i64 0, .int .i64 0, .int .i64 0]) ?_ 6 _ rfl; (with_reducible repeat (first | refine blk_drewN ?_ _ | refine blk_drew ?_ | refine blk_alloc ?_ _)); refine blk_put (cs := #[.int .i64 0, .int .i64 0, .int .i64 0, .int .i64 0, .int .i64 0, .int .i64 0, .int .i64 0, .int .i64 0, .int .i64 0, .int .i64 0]) ?_ 5 _ rfl; (with_reducible repeat (first | refine blk_drewN ?_ _ | refine blk_drew ?_ | refine blk_alloc ?_ _)); refine blk_put (cs := #[.int .i64 0, .int .i64 0, .int .i64 0, .int .i64 0, .int .i64 0, .int .i64 0, .int .i64 0, .int .i64 0, .int .i64 0, .int .i64 0]) ?_ 4 _ rfl; (with_reducible repeat (first | refine blk_drewN ?_ _ | refine blk_drew ?_ | refine blk_alloc ?_ _)); refine blk_put (cs := #[.int .i64 0, .int .i64 0, .int .i64 0, .int .i64 0, .int .i64 0, .int .i64 0, .int .i64 0, .int .i64 0, .int .i64 0, .int .i64 0]) ?_ 3 _ rfl; (with_reducible repeat (first | refine blk_drewN ?_ _ | refine blk_drew ?_ | refine blk_alloc ?_ _)); refine blk_put (cs := #[.int .i64 0, .int .i64 0, .int .i64 0, .int .i64 0, .int .i64 0, .int .i64 0, .int .i64 0, .int .i64 0, .int .i64 0, .int .i64 0]) ?_ 2 _ rfl; (with_reducible repeat (first | refine blk_drewN ?_ _ | refine blk_drew ?_ | refine blk_alloc ?_ _)); refine blk_put (cs := #[.int .i64 0, .int .i64 0, .int .i64 0, .int .i64 0, .int .i64 0, .int .i64 0, .int .i64 0, .int .i64 0, .int .i64 0, .int .i64 0]) ?_ 1 _ rfl; (with_reducible repeat (first | refine blk_drewN ?_ _ | refine blk_drew ?_ | refine blk_alloc ?_ _)); refine blk_put (cs := #[.int .i64 0, .int .i64 0, .int .i64 0, .int .i64 0, .int .i64 0, .int .i64 0, .int .i64 0, .int .i64 0, .int .i64 0, .int .i64 0]) ?_ 0 _ rfl; (with_reducible repeat (first | refine blk_drewN ?_ _ | refine blk_drew ?_ | refine blk_alloc ?_ _)); exact BK413.out) Try.underlying24 rfl (by kernel_rfl)) rfl ?_
                            exact ⟨by first | rfl | (simp [errW_none, errW_some] <;> rfl) | (simp [*, errW_none, errW_some] <;> rfl), by repeat (first | (with_reducible first | exact HB.out | apply below_alloc | apply pw_below_drewN | apply below_drew1 | refine below_set ?_ GE413.out | refine below_set ?_ GE425.out) | exact HB.out)⟩
                  · rw [if_neg c14] at H
                    exact absurd H (by simp)
                · rw [if_neg c13] at H
                  exact absurd H (by simp)
              · rw [if_neg c12] at H
                exact absurd H (by simp)
            · rw [if_neg c11] at H
              exact absurd H (by simp)
          · rw [if_neg c10] at H
            exact absurd H (by simp)
        · rw [if_neg c9] at H
          exact absurd H (by simp)

end Go.Proofs.Ytpffggpedogifaa.P
