-- Written by wip/mk.py of this repo: the kit's print program, with contracts of our own among its functions.
import Derived.Test.YtpffggpedogifaaPx0
import Derived.Test.YtpffggpedogifaaPx16
import Derived.Test.YtpffggpedogifaaPx20
namespace Go.Proofs.Ytpffggpedogifaa.P
open Go.RowKit Go.Proofs.YtpffggpedogifaaW.PrintWords Go.Proofs.YtpffggpedogifaaW.PrintLast Go.Proofs.YtpffggpedogifaaW.PrintMore
attribute [local go_sem] max2_int min2_int max_two min_two max_three min_three max_four min_four   -- for this text's walks alone
set_option linter.unusedVariables false
set_option linter.unusedSimpArgs false

/-! ### fold_Decode: function 20 -/
theorem fold_Decode.far10 {W : World} {g : Nat} {a : Addr} {x : Option Value} (h : a.block ≠ g) {o0 o1 o2 o3 o4 o5 o6 o7 o8 o9 : Nat} {v0 v1 v2 v3 v4 v5 v6 v7 v8 v9 : Value} (e : W.cell? a = x) : ((((((((((W.setCell ⟨g, o0, none⟩ v0).setCell ⟨g, o1, none⟩ v1).setCell ⟨g, o2, none⟩ v2).setCell ⟨g, o3, none⟩ v3).setCell ⟨g, o4, none⟩ v4).setCell ⟨g, o5, none⟩ v5).setCell ⟨g, o6, none⟩ v6).setCell ⟨g, o7, none⟩ v7).setCell ⟨g, o8, none⟩ v8).setCell ⟨g, o9, none⟩ v9).cell? a = x := ((cell_far (p := ⟨g, o9, none⟩) h v9).trans ((cell_far (p := ⟨g, o8, none⟩) h v8).trans ((cell_far (p := ⟨g, o7, none⟩) h v7).trans ((cell_far (p := ⟨g, o6, none⟩) h v6).trans ((cell_far (p := ⟨g, o5, none⟩) h v5).trans ((cell_far (p := ⟨g, o4, none⟩) h v4).trans ((cell_far (p := ⟨g, o3, none⟩) h v3).trans ((cell_far (p := ⟨g, o2, none⟩) h v2).trans ((cell_far (p := ⟨g, o1, none⟩) h v1).trans ((cell_far (p := ⟨g, o0, none⟩) h v0).trans e))))))))))
def fold_Decode.j0 : Nat → List Int → Bool → Option (Int × Int × Int × Int × Int × Int × Int × Int × Int × Int × Int)
  | 0, _, _ => none
  | k + 1, x4, x19 => if x19 = true then (some (0, 0, 0, 0, 0, 0, 0, 0, 0, 0, 2)) else (if 0 < (x4.length : Int) then (if 1 < (x4.length : Int) then (if 2 < (x4.length : Int) then (if 3 < (x4.length : Int) then (if 4 ≤ 8 then (if 8 ≤ (x4.length : Int) then ((some ((x4.take 8).drop 4 : List Int)).bind fun y393 => (if (y393.length : Int) ≥ 4 then (if 0 < (y393.length : Int) then (if 1 < (y393.length : Int) then (if 2 < (y393.length : Int) then (if 3 < (y393.length : Int) then (if 8 < (x4.length : Int) then (if 9 < (x4.length : Int) then ((fold_Check.f k (rd x4 0) (rd x4 1) (rd x4 2) (rd x4 3) (rd y393 0) (rd y393 1) (rd y393 2) (rd y393 3) (rd x4 8) (rd x4 9)).bind fun t404 => (if t404 = 0 then (some (rd x4 0, rd x4 1, rd x4 2, rd x4 3, rd y393 0, rd y393 1, rd y393 2, rd y393 3, rd x4 8, rd x4 9, 0)) else (some (0, 0, 0, 0, 0, 0, 0, 0, 0, 0, 2)))) else (none)) else (none)) else (none)) else (none)) else (none)) else (none)) else (none))) else (none)) else (none)) else (none)) else (none)) else (none)) else (none))
def fold_Decode.f (k : Nat) (a0 : ByteArray) : Option (Int × Int × Int × Int × Int × Int × Int × Int × Int × Int × Int) := (varint_TakeAll.f k a0 10).bind fun bt384 => (if bt384.2.2 = 0 then (fold_Decode.j0 k bt384.1 (bt384.2.1.toList != ([] : List UInt8))) else (fold_Decode.j0 k bt384.1 true))
theorem fold_Decode.mono_l : ∀ k, (∀ y0 y1, LeO (fold_Decode.j0 k y0 y1) (fold_Decode.j0 (k + 1) y0 y1))
  | 0 => fun _ _ r h => by simp [fold_Decode.j0] at h
  | k + 1 => by
    have ih0 := fold_Decode.mono_l k
    · intro y0 y1
      unfold fold_Decode.j0
      repeat' first
      | (with_reducible exact ih0 _ _)
      | (with_reducible exact fold_Check.mono _ _ _ _ _ _ _ _ _ _ _)
      | (with_reducible exact varint_TakeAll.mono _ _ _)
      | (with_reducible exact LeO.refl _)
      | (with_reducible exact LeO.none _)
      | (with_reducible refine LeO.ite ?_ ?_)
      | (with_reducible refine LeO.bind ?_ (fun _ => ?_))
      | exact ih0 _ _
      | exact fold_Check.mono _ _ _ _ _ _ _ _ _ _ _
      | exact varint_TakeAll.mono _ _ _
      | exact LeO.none _
      | refine LeO.ite ?_ ?_
      | refine LeO.bind ?_ (fun _ => ?_)
theorem fold_Decode.mono : ∀ a0 k, LeO (fold_Decode.f k a0) (fold_Decode.f (k + 1) a0) := by
  intro a0 k
  have ih0 := fold_Decode.mono_l k
  unfold fold_Decode.f
  repeat' first
      | (with_reducible exact ih0 _ _)
      | (with_reducible exact fold_Check.mono _ _ _ _ _ _ _ _ _ _ _)
      | (with_reducible exact varint_TakeAll.mono _ _ _)
      | (with_reducible exact LeO.refl _)
      | (with_reducible exact LeO.none _)
      | (with_reducible refine LeO.ite ?_ ?_)
      | (with_reducible refine LeO.bind ?_ (fun _ => ?_))
      | exact ih0 _ _
      | exact fold_Check.mono _ _ _ _ _ _ _ _ _ _ _
      | exact varint_TakeAll.mono _ _ _
      | exact LeO.none _
      | refine LeO.ite ?_ ?_
      | refine LeO.bind ?_ (fun _ => ?_)
def fold_Decode.T4 : Bool × List (List Nat × List Nat) := (true, [([], []), ([0], [0]), ([1], [1]), ([], []), ([3], [3]), ([4], [4]), ([], []), ([6], [6]), ([7], [7]), ([], []), ([9], [9]), ([10], [10]), ([], []), ([12], [12]), ([13], [13]), ([14], [14]), ([], []), ([16], [16]), ([17], [17]), ([], []), ([19], [19]), ([20], [20]), ([2, 5, 8, 11, 15, 18, 21], [2, 5, 8, 11, 15, 18, 21]), ([], []), ([23, 22, 0, 1, 2, 3, 4, 5, 6, 7, 8, 9, 10, 11, 12, 13, 14, 15, 16, 17, 18, 19, 20, 21, 22, 23], [22, 23])])
def fold_Decode.B4 : List Nat := [0, 1, 3, 0, 8, 24, 0, 64, 192, 0, 512, 1536, 0, 4096, 12288, 28672, 0, 65536, 196608, 0, 524288, 1572864, 4194303, 0, 16777215]
theorem fold_Decode.tab4 : rtab .any (opsOf Try.f20 4) = fold_Decode.T4 := by kernel_rfl
theorem fold_Decode.bits4 : waitsOk fold_Decode.T4.2 fold_Decode.B4 = true := by kernel_rfl
set_option maxHeartbeats 8000000 in
set_option maxRecDepth 100000 in
theorem fold_Decode.calls (k : Nat) (a0 : ByteArray) (r1 : Int) (r2 : Int) (r3 : Int) (r4 : Int) (r5 : Int) (r6 : Int) (r7 : Int) (r8 : Int) (r9 : Int) (r10 : Int) (r11 : Int) (w : World) (h : fold_Decode.f k a0 = some (r1, r2, r3, r4, r5, r6, r7, r8, r9, r10, r11)) :
    Calls Try.prog 20 #[.string a0] w fun e w' => e = .returned (.tuple #[.agg #[.int .i64 r1, .int .i64 r2, .int .i64 r3, .int .i64 r4, .int .i64 r5, .int .i64 r6, .int .i64 r7, .int .i64 r8, .int .i64 r9, .int .i64 r10], .int .i64 r11]) ∧ Below w.heap.size w w' := by
  have hu24 := Try.underlying24
  have hu22 := Try.underlying22
  have hsa22 : ∀ (A_ : Option Addr) (n_ c_ : Nat) (w_ : World), decide (4 ≤ n_) = true → (Instr.arrayAt 22 (.slice A_ n_ c_)).run Try.prog w_ = .ok (.pointer A_) w_ := by
    intro A_ n_ c_ w_ h_
    replace h_ := of_decide_eq_true h_
    have hu_ := Try.underlying22
    unfold Instr.arrayAt
    go_simp
  have HB := Aside0.mk (Below.refl w.heap.size w)
  have H : ((varint_TakeAll.f k a0 10).bind fun bt384 => (if bt384.2.2 = 0 then (fold_Decode.j0 k bt384.1 (bt384.2.1.toList != ([] : List UInt8))) else (fold_Decode.j0 k bt384.1 true))) = some (r1, r2, r3, r4, r5, r6, r7, r8, r9, r10, r11) := h
  clear h
  replace H := Option.bind_eq_some_iff.mp H
  obtain ⟨⟨t384, t385, t386⟩, A20, H⟩ := H
  replace H : (if t386 = 0 then (fold_Decode.j0 k t384 (t385.toList != ([] : List UInt8))) else (fold_Decode.j0 k t384 true)) = some (r1, r2, r3, r4, r5, r6, r7, r8, r9, r10, r11) := H
  have A2 := Aside0.mk A20
  clear A20
  have HC3 := Aside0.mk H
  clear H
  go_enter Try.func20, Try.ntmps20
  go_upto_region 2 with (first | ((with_reducible refine gate_dst (N := 2) rfl ?_); refine box_event ?hg (N := 2) ?hd (cs := #[.int .i64 0, .int .i64 0, .int .i64 0, .int .i64 0, .int .i64 0, .int .i64 0, .int .i64 0, .int .i64 0, .int .i64 0, .int .i64 0]) (t := 24) ?hr ?_; (case hd => rfl); (case hg => rfl); (case hr => first | (go_simp; done) | (go_simp; rfl)); intro gb383 hg w4 hbox hb; have n0_ := Aside0.mk (below_step (by repeat (first | (with_reducible first | exact HB.out | apply below_alloc | apply pw_below_drewN | apply below_drew1) | exact HB.out)) hb); have n1_ := Aside0.mk (hbox); have n2_ := Aside0.mk ((by rw [hg]; exact (below_size (by repeat (first | (with_reducible first | exact HB.out | apply below_alloc | apply pw_below_drewN | apply below_drew1) | exact HB.out))) : w.heap.size ≤ gb383)); have n3_ := Aside0.mk ((by rw [hg]; exact (below_size (by repeat (first | (with_reducible first | exact HB.out | apply below_alloc | apply pw_below_drewN | apply below_drew1) | exact HB.out))) : w.heap.size ≤ gb383)); clear HB; have HB := n0_; have BK383 := n1_; have GW383 := n2_; have GE383 := n3_; clear n0_ n1_ n2_ n3_; clear hb hbox hg) | ((with_reducible refine gate_callee (f := 29) rfl ?_); refine goesL_ (some 10) rfl rfl Try.func29 (by kernel_rfl) rfl #[.string a0, .int .i64 10] rfl (by (try simp only [List.map_toArray, List.map_cons, List.map_nil]); first | done | rfl | (simp only [List.length_drop, List.length_take]; rfl)) ?_; (with_reducible refine (varint_TakeAll.calls k a0 10 t384 t385 t386 _ A2.out).mono ?_); rintro e w5 ⟨v387, rfl, ho0, hb⟩; refine ⟨_, rfl, ?_⟩; have n0_ := Aside0.mk (Kd.R_lower ho0 (below_size (by repeat (first | (with_reducible first | exact HB.out | apply below_alloc | apply pw_below_drewN | apply below_drew1 | refine below_set ?_ GE383.out) | exact HB.out)))); have n1_ := Aside0.mk (blk_below (g := gb383) (o := .cells #[.int .i64 0, .int .i64 0, .int .i64 0, .int .i64 0, .int .i64 0, .int .i64 0, .int .i64 0, .int .i64 0, .int .i64 0, .int .i64 0] 24 (0, 0)) (by (with_reducible repeat (first | refine blk_drewN ?_ _ | refine blk_drew ?_ | refine blk_alloc ?_ _)); exact BK383.out) hb); have n2_ := Aside0.mk (below_step (by repeat (first | (with_reducible first | exact HB.out | apply below_alloc | apply pw_below_drewN | apply below_drew1 | refine below_set ?_ GE383.out) | exact HB.out)) hb); clear BK383; clear HB; have HO388 := n0_; have BK383 := n1_; have HB := n2_; clear n0_ n1_ n2_; (try clear hb); (try clear hb2); (try clear hk); (try clear hi); (try clear ho0)))
  (try simp only [Act.put, List.setIfInBounds_toArray, List.set_cons_zero, List.set_cons_succ])
  go_cut [19] (fun v19 wc => ∃ (kq : Nat) (x19_2 : Bool), v19 = .bool x19_2 ∧ Aside0 (fold_Decode.j0 kq t384 x19_2 = some (r1, r2, r3, r4, r5, r6, r7, r8, r9, r10, r11)) ∧ Aside0 (kq ≤ k) ∧ Aside0 (Kd.R (Kd.int .i64) 3 wc w.heap.size (fun _ => True) v387 t384) ∧ Aside0 (wc.heap[gb383]? = some (.cells #[.int .i64 0, .int .i64 0, .int .i64 0, .int .i64 0, .int .i64 0, .int .i64 0, .int .i64 0, .int .i64 0, .int .i64 0, .int .i64 0] 24 (0, 0))) ∧ Aside0 (Below w.heap.size w wc))
  case first =>
    have H := HC3.out
    clear HC3
    by_cases c6 : t386 = 0
    · rw [if_pos c6] at H
      have c6b0 : (t386 == 0) = true := beq_iff_eq.mpr c6
      have c6b1 : (t386 != 0) = false := bne_eq_false_iff_eq.mpr c6
      clear c6
      (first | rw [c6b0] | rw [c6b9] | (simp only [i64_w, i32_w]; rw [c6b0]) | skip)
      have H' := Aside0.mk H
      clear H
      go_wp2
      go_meet
      case rel => exact ⟨_, ((t385.toList != ([] : List UInt8))), (by first | rfl | (simp; done) | (simp [*]; done) | (generalize ByteArray.toList _ = l_; cases l_ <;> rfl)), H', ⟨by first | omega | exact Nat.le_refl _⟩, ⟨by (with_reducible repeat (first | apply Kd.R_alloc | apply Kd.R_drewN | apply Kd.R_drew)); exact HO388.out⟩, ⟨by (with_reducible repeat (first | refine blk_drewN ?_ _ | refine blk_drew ?_ | refine blk_alloc ?_ _)); exact BK383.out⟩, ⟨by repeat (first | (with_reducible first | exact HB.out | apply below_alloc | apply pw_below_drewN | apply below_drew1 | refine below_set ?_ GE383.out) | exact HB.out)⟩⟩
    · rw [if_neg c6] at H
      have c6b0 : (t386 == 0) = false := beq_eq_false_iff_ne.mpr c6
      have c6b1 : (t386 != 0) = true := bne_iff_ne.mpr c6
      (first | rw [c6b0] | rw [c6b9] | (simp only [i64_w, i32_w]; rw [c6b0]) | skip)
      have H' := Aside0.mk H
      clear H
      go_wp2
      go_meet
      case rel => exact ⟨_, (true), (by first | rfl | (simp; done) | (simp [*]; done)), H', ⟨by first | omega | exact Nat.le_refl _⟩, ⟨by (with_reducible repeat (first | apply Kd.R_alloc | apply Kd.R_drewN | apply Kd.R_drew)); exact HO388.out⟩, ⟨by (with_reducible repeat (first | refine blk_drewN ?_ _ | refine blk_drew ?_ | refine blk_alloc ?_ _)); exact BK383.out⟩, ⟨by repeat (first | (with_reducible first | exact HB.out | apply below_alloc | apply pw_below_drewN | apply below_drew1 | refine below_set ?_ GE383.out) | exact HB.out)⟩⟩
  case rest =>
    clear HC3
    try clear c2
    try clear p2
    try clear c6
    try clear c6b0
    try clear c6b1
    obtain ⟨kq, x19_2, rfl, HA, HJ2, HO_4, BK383, HB⟩ := hcut
    cases kq with
    | zero => exact absurd HA.out (by simp [fold_Decode.j0])
    | succ kj2 =>
      have H := HA.out
      clear HA
      simp only [fold_Decode.j0] at H
      by_cases c7 : x19_2 = true
      · subst c7
        have H1 : (some (0, 0, 0, 0, 0, 0, 0, 0, 0, 0, 2)) = some (r1, r2, r3, r4, r5, r6, r7, r8, r9, r10, r11) := by rw [if_pos rfl] at H; exact H
        clear H
        have H := H1
        clear H1
        simp only [Option.some.injEq, Prod.mk.injEq] at H
        obtain ⟨rfl, rfl, rfl, rfl, rfl, rfl, rfl, rfl, rfl, rfl, rfl⟩ := H
        have hcz8_0 : wc.cell? ⟨gb383, 0, none⟩ = some (.int .i64 0) := (blk_cell BK383.out 0).trans rfl
        have hcz8_1 : wc.cell? ⟨gb383, 1, none⟩ = some (.int .i64 0) := (blk_cell BK383.out 1).trans rfl
        have hcz8_2 : wc.cell? ⟨gb383, 2, none⟩ = some (.int .i64 0) := (blk_cell BK383.out 2).trans rfl
        have hcz8_3 : wc.cell? ⟨gb383, 3, none⟩ = some (.int .i64 0) := (blk_cell BK383.out 3).trans rfl
        have hcz8_4 : wc.cell? ⟨gb383, 4, none⟩ = some (.int .i64 0) := (blk_cell BK383.out 4).trans rfl
        have hcz8_5 : wc.cell? ⟨gb383, 5, none⟩ = some (.int .i64 0) := (blk_cell BK383.out 5).trans rfl
        have hcz8_6 : wc.cell? ⟨gb383, 6, none⟩ = some (.int .i64 0) := (blk_cell BK383.out 6).trans rfl
        have hcz8_7 : wc.cell? ⟨gb383, 7, none⟩ = some (.int .i64 0) := (blk_cell BK383.out 7).trans rfl
        have hcz8_8 : wc.cell? ⟨gb383, 8, none⟩ = some (.int .i64 0) := (blk_cell BK383.out 8).trans rfl
        have hcz8_9 : wc.cell? ⟨gb383, 9, none⟩ = some (.int .i64 0) := (blk_cell BK383.out 9).trans rfl
        have hfz8_0 := blk_frozen BK383.out 0
        have hfz8_1 := blk_frozen BK383.out 1
        have hfz8_2 := blk_frozen BK383.out 2
        have hfz8_3 := blk_frozen BK383.out 3
        have hfz8_4 := blk_frozen BK383.out 4
        have hfz8_5 := blk_frozen BK383.out 5
        have hfz8_6 := blk_frozen BK383.out 6
        have hfz8_7 := blk_frozen BK383.out 7
        have hfz8_8 := blk_frozen BK383.out 8
        have hfz8_9 := blk_frozen BK383.out 9
        go_wp2
        refine bodyPost_ret (results_ct rfl _ _ gb383 24 #[.int .i64 0, .int .i64 0, .int .i64 0, .int .i64 0, .int .i64 0, .int .i64 0, .int .i64 0, .int .i64 0, .int .i64 0, .int .i64 0] (0, 0) _ rfl (by (with_reducible repeat (first | refine blk_drewN ?_ _ | refine blk_drew ?_ | refine blk_alloc ?_ _)); refine blk_put (cs := #[.int .i64 0, .int .i64 0, .int .i64 0, .int .i64 0, .int .i64 0, .int .i64 0, .int .i64 0, .int .i64 0, .int .i64 0, .int .i64 0]) ?_ 9 _ rfl; (with_reducible repeat (first | refine blk_drewN ?_ _ | refine blk_drew ?_ | refine blk_alloc ?_ _)); refine blk_put (cs := #[.int .i64 0, .int .i64 0, .int .i64 0, .int .i64 0, .int .i64 0, .int .i64 0, .int .i64 0, .int .i64 0, .int .i64 0, .int .i64 0]) ?_ 8 _ rfl; (with_reducible repeat (first | refine blk_drewN ?_ _ | refine blk_drew ?_ | refine blk_alloc ?_ _)); refine blk_put (cs := #[.int .i64 0, .int .i64 0, .int .i64 0, .int .i64 0, .int .i64 0, .int .i64 0, .int .i64 0, .int .i64 0, .int .i64 0, .int .i64 0]) ?_ 7 _ rfl; (with_reducible repeat (first | refine blk_drewN ?_ _ | refine blk_drew ?_ | refine blk_alloc ?_ _)); refine blk_put (cs := #[.int .i64 0, .int .i64 0, .int .i64 0, .int .i64 0, .int .i64 0, .int .i64 0, .int .i64 0, .int .i64 0, .int .i64 0, .int .i64 0]) ?_ 6 _ rfl; (with_reducible repeat (first | refine blk_drewN ?_ _ | refine blk_drew ?_ | refine blk_alloc ?_ _)); refine blk_put (cs := #[.int .i64 0, .int .i64 0, .int .i64 0, .int .i64 0, .int .i64 0, .int .i64 0, .int .i64 0, .int .i64 0, .int .i64 0, .int .i64 0]) ?_ 5 _ rfl; (with_reducible repeat (first | refine blk_drewN ?_ _ | refine blk_drew ?_ | refine blk_alloc ?_ _)); refine blk_put (cs := #[.int .i64 0, .int .i64 0, .int .i64 0, .int .i64 0, .int .i64 0, .int .i64 0, .int .i64 0, .int .i64 0, .int .i64 0, .int .i64 0]) ?_ 4 _ rfl; (with_reducible repeat (first | refine blk_drewN ?_ _ | refine blk_drew ?_ | refine blk_alloc ?_ _)); refine blk_put (cs := #[.int .i64 0, .int .i64 0, .int .i64 0, .int .i64 0, .int .i64 0, .int .i64 0, .int .i64 0, .int .i64 0, .int .i64 0, .int .i64 0]) ?_ 3 _ rfl; (with_reducible repeat (first | refine blk_drewN ?_ _ | refine blk_drew ?_ | refine blk_alloc ?_ _)); refine blk_put (cs := #[.int .i64 0, .int .i64 0, .int .i64 0, .int .i64 0, .int .i64 0, .int .i64 0, .int .i64 0, .int .i64 0, .int .i64 0, .int .i64 0]) ?_ 2 _ rfl; (with_reducible repeat (first | refine blk_drewN ?_ _ | refine blk_drew ?_ | refine blk_alloc ?_ _)); refine blk_put (cs := #[.int .i64 0, .int .i64 0, .int .i64 0, .int .i64 0, .int .i64 0, .int .i64 0, .int .i64 0, .int .i64 0, .int .i64 0, .int .i64 0]) ?_ 1 _ rfl; (with_reducible repeat (first | refine blk_drewN ?_ _ | refine blk_drew ?_ | refine blk_alloc ?_ _)); refine blk_put (cs := #[.int .i64 0, .int .i64 0, .int .i64 0, .int .i64 0, .int .i64 0, .int .i64 0, .int .i64 0, .int .i64 0, .int .i64 0, .int .i64 0]) ?_ 0 _ rfl; (with_reducible repeat (first | refine blk_drewN ?_ _ | refine blk_drew ?_ | refine blk_alloc ?_ _)); exact BK383.out) Try.underlying24 rfl (by kernel_rfl)) rfl ?_
        exact ⟨by first | rfl | (simp [errW_none, errW_some] <;> rfl) | (simp [*, errW_none, errW_some] <;> rfl), by repeat (first | (with_reducible first | exact HB.out | apply below_alloc | apply pw_below_drewN | apply below_drew1 | refine below_set ?_ GE383.out) | exact HB.out)⟩
      · replace c7 := Bool.eq_false_iff.mpr c7
        subst c7
        have H1 : (if 0 < (t384.length : Int) then (if 1 < (t384.length : Int) then (if 2 < (t384.length : Int) then (if 3 < (t384.length : Int) then (if 4 ≤ 8 then (if 8 ≤ (t384.length : Int) then ((some ((t384.take 8).drop 4 : List Int)).bind fun y393 => (if (y393.length : Int) ≥ 4 then (if 0 < (y393.length : Int) then (if 1 < (y393.length : Int) then (if 2 < (y393.length : Int) then (if 3 < (y393.length : Int) then (if 8 < (t384.length : Int) then (if 9 < (t384.length : Int) then ((fold_Check.f kj2 (rd t384 0) (rd t384 1) (rd t384 2) (rd t384 3) (rd y393 0) (rd y393 1) (rd y393 2) (rd y393 3) (rd t384 8) (rd t384 9)).bind fun t404 => (if t404 = 0 then (some (rd t384 0, rd t384 1, rd t384 2, rd t384 3, rd y393 0, rd y393 1, rd y393 2, rd y393 3, rd t384 8, rd t384 9, 0)) else (some (0, 0, 0, 0, 0, 0, 0, 0, 0, 0, 2)))) else (none)) else (none)) else (none)) else (none)) else (none)) else (none)) else (none))) else (none)) else (none)) else (none)) else (none)) else (none)) else (none)) = some (r1, r2, r3, r4, r5, r6, r7, r8, r9, r10, r11) := by rw [if_neg (show ¬ (false = true) by decide)] at H; exact H
        clear H
        have H := H1
        clear H1
        by_cases c9 : 0 < (t384.length : Int)
        · rw [if_pos c9] at H
          have c9b0 : decide (0 < (t384.length : Int)) = true := decide_eq_true c9
          have c9b1 : decide (0 < t384.length) = true := decide_eq_true (by omega)
          clear c9
          by_cases c10 : 1 < (t384.length : Int)
          · rw [if_pos c10] at H
            have c10b0 : decide (1 < (t384.length : Int)) = true := decide_eq_true c10
            have c10b1 : decide (1 < t384.length) = true := decide_eq_true (by omega)
            clear c10
            by_cases c11 : 2 < (t384.length : Int)
            · rw [if_pos c11] at H
              have c11b0 : decide (2 < (t384.length : Int)) = true := decide_eq_true c11
              have c11b1 : decide (2 < t384.length) = true := decide_eq_true (by omega)
              clear c11
              by_cases c12 : 3 < (t384.length : Int)
              · rw [if_pos c12] at H
                have c12b0 : decide (3 < (t384.length : Int)) = true := decide_eq_true c12
                have c12b1 : decide (3 < t384.length) = true := decide_eq_true (by omega)
                clear c12
                by_cases c13 : 4 ≤ 8
                · rw [if_pos c13] at H
                  have c13b0 := eq_true c13
                  have c13b1 : decide (4 ≤ 8) = true := decide_eq_true c13
                  clear c13
                  by_cases c14 : 8 ≤ (t384.length : Int)
                  · rw [if_pos c14] at H
                    have c14b0 := eq_true c14
                    have c14b1 : decide (8 ≤ (t384.length : Int)) = true := decide_eq_true c14
                    clear c14
                    obtain ⟨y393, hy393⟩ : ∃ y_ : List Int, y_ = ((t384.take 8).drop 4) := ⟨_, rfl⟩
                    replace H : (if (y393.length : Int) ≥ 4 then (if 0 < (y393.length : Int) then (if 1 < (y393.length : Int) then (if 2 < (y393.length : Int) then (if 3 < (y393.length : Int) then (if 8 < (t384.length : Int) then (if 9 < (t384.length : Int) then ((fold_Check.f kj2 (rd t384 0) (rd t384 1) (rd t384 2) (rd t384 3) (rd y393 0) (rd y393 1) (rd y393 2) (rd y393 3) (rd t384 8) (rd t384 9)).bind fun t404 => (if t404 = 0 then (some (rd t384 0, rd t384 1, rd t384 2, rd t384 3, rd y393 0, rd y393 1, rd y393 2, rd y393 3, rd t384 8, rd t384 9, 0)) else (some (0, 0, 0, 0, 0, 0, 0, 0, 0, 0, 2)))) else (none)) else (none)) else (none)) else (none)) else (none)) else (none)) else (none)) = some (r1, r2, r3, r4, r5, r6, r7, r8, r9, r10, r11) := by first | (rw [hy393]; with_reducible exact H) | (have H2_ := (Option.bind_some _ _).symm.trans H; rw [hy393]; with_reducible exact H2_) | (have H2_ := (Option.bind_some _ _).symm.trans H; with_reducible exact H2_) | with_reducible exact H | (rw [hy393]; exact H) | exact H
                    have Ny393 := Aside0.mk hy393
                    clear hy393
                    by_cases c15 : (y393.length : Int) ≥ 4
                    · rw [if_pos c15] at H
                      have c15b0 : decide (4 ≤ (y393.length : Int)) = true := decide_eq_true c15
                      have c15b1 : decide (4 ≤ y393.length) = true := decide_eq_true (by omega)
                      clear c15
                      by_cases c16 : 0 < (y393.length : Int)
                      · rw [if_pos c16] at H
                        have c16b0 : decide (0 < (y393.length : Int)) = true := decide_eq_true c16
                        have c16b1 : decide (0 < y393.length) = true := decide_eq_true (by omega)
                        clear c16
                        by_cases c17 : 1 < (y393.length : Int)
                        · rw [if_pos c17] at H
                          have c17b0 : decide (1 < (y393.length : Int)) = true := decide_eq_true c17
                          have c17b1 : decide (1 < y393.length) = true := decide_eq_true (by omega)
                          clear c17
                          by_cases c18 : 2 < (y393.length : Int)
                          · rw [if_pos c18] at H
                            have c18b0 : decide (2 < (y393.length : Int)) = true := decide_eq_true c18
                            have c18b1 : decide (2 < y393.length) = true := decide_eq_true (by omega)
                            clear c18
                            by_cases c19 : 3 < (y393.length : Int)
                            · rw [if_pos c19] at H
                              have c19b0 : decide (3 < (y393.length : Int)) = true := decide_eq_true c19
                              have c19b1 : decide (3 < y393.length) = true := decide_eq_true (by omega)
                              clear c19
                              by_cases c20 : 8 < (t384.length : Int)
                              · rw [if_pos c20] at H
                                have c20b0 : decide (8 < (t384.length : Int)) = true := decide_eq_true c20
                                have c20b1 : decide (8 < t384.length) = true := decide_eq_true (by omega)
                                clear c20
                                by_cases c21 : 9 < (t384.length : Int)
                                · rw [if_pos c21] at H
                                  have c21b0 : decide (9 < (t384.length : Int)) = true := decide_eq_true c21
                                  have c21b1 : decide (9 < t384.length) = true := decide_eq_true (by omega)
                                  clear c21
                                  replace H := Option.bind_eq_some_iff.mp H
                                  obtain ⟨t404, A220, H⟩ := H
                                  replace H : (if t404 = 0 then (some (rd t384 0, rd t384 1, rd t384 2, rd t384 3, rd y393 0, rd y393 1, rd y393 2, rd y393 3, rd t384 8, rd t384 9, 0)) else (some (0, 0, 0, 0, 0, 0, 0, 0, 0, 0, 2))) = some (r1, r2, r3, r4, r5, r6, r7, r8, r9, r10, r11) := H
                                  have A22 := Aside0.mk A220
                                  clear A220
                                  by_cases c23 : t404 = 0
                                  · rw [if_pos c23] at H
                                    have c23b0 : (t404 == 0) = true := beq_iff_eq.mpr c23
                                    have c23b1 : (t404 != 0) = false := bne_eq_false_iff_eq.mpr c23
                                    clear c23
                                    simp only [Option.some.injEq, Prod.mk.injEq] at H
                                    obtain ⟨rfl, rfl, rfl, rfl, rfl, rfl, rfl, rfl, rfl, rfl, rfl⟩ := H
                                    try go_wp2
                                    have n0_ := Aside0.mk (Kd.R_drew HO_4.out)
                                    have n1_ := Aside0.mk (blk_drew BK383.out)
                                    have n2_ := Aside0.mk (below_drew1 HB.out)
                                    clear HO_4
                                    clear BK383
                                    clear HB
                                    have HO_4 := n0_
                                    have BK383 := n1_
                                    have HB := n2_
                                    clear n0_ n1_ n2_
                                    obtain ⟨Ao25, co25, eo25⟩ := Kd.R_slice HO_4.out
                                    (first | subst eo25 | (injection eo25 with f1_ f2_ f3_; have f4_ := f1_.symm; have f5_ := f3_.symm; clear f1_ f2_ f3_; subst f4_; subst f5_))
                                    have p389 : 0 ≤ (0 : Int) := (by omega)
                                    have q389 : 0 < (t384.length : Int) := of_decide_eq_true (by first | (with_reducible assumption) | assumption)
                                    obtain ⟨ad389, e389, hx389_0⟩ := Kd.at_int (Kd.R_reads' HO_4.out).2.2 0 p389 q389
                                    cases e389
                                    have qi389 : (0 < t384.length) = True := eq_true (by omega)
                                    (try rw [show ((0 : Int)).toNat = 0 from rfl] at hx389_0)
                                    (try rw [Addr.add_zero'] at hx389_0)
                                    replace p389 := eq_true p389
                                    replace q389 := eq_true q389
                                    have p390 : 0 ≤ (1 : Int) := (by omega)
                                    have q390 : 1 < (t384.length : Int) := of_decide_eq_true (by first | (with_reducible assumption) | assumption)
                                    obtain ⟨ad390, e390, hx390_0⟩ := Kd.at_int (Kd.R_reads' HO_4.out).2.2 1 p390 q390
                                    obtain rfl : ad389 = ad390 := (by injection e390)
                                    (try simp only [show (1 : Int).toNat = 1 from rfl, Nat.reduceMul, Nat.reduceEqDiff, Go.Addr.add, ↓reduceIte] at hx390_0)
                                    have qi390 : (1 < t384.length) = True := eq_true (by omega)
                                    (try rw [show ((1 : Int)).toNat = 1 from rfl] at hx390_0)
                                    replace p390 := eq_true p390
                                    replace q390 := eq_true q390
                                    have p391 : 0 ≤ (2 : Int) := (by omega)
                                    have q391 : 2 < (t384.length : Int) := of_decide_eq_true (by first | (with_reducible assumption) | assumption)
                                    obtain ⟨ad391, e391, hx391_0⟩ := Kd.at_int (Kd.R_reads' HO_4.out).2.2 2 p391 q391
                                    obtain rfl : ad389 = ad391 := (by injection e391)
                                    (try simp only [show (2 : Int).toNat = 2 from rfl, Nat.reduceMul, Nat.reduceEqDiff, Go.Addr.add, ↓reduceIte] at hx391_0)
                                    have qi391 : (2 < t384.length) = True := eq_true (by omega)
                                    (try rw [show ((2 : Int)).toNat = 2 from rfl] at hx391_0)
                                    replace p391 := eq_true p391
                                    replace q391 := eq_true q391
                                    have p392 : 0 ≤ (3 : Int) := (by omega)
                                    have q392 : 3 < (t384.length : Int) := of_decide_eq_true (by first | (with_reducible assumption) | assumption)
                                    obtain ⟨ad392, e392, hx392_0⟩ := Kd.at_int (Kd.R_reads' HO_4.out).2.2 3 p392 q392
                                    obtain rfl : ad389 = ad392 := (by injection e392)
                                    (try simp only [show (3 : Int).toNat = 3 from rfl, Nat.reduceMul, Nat.reduceEqDiff, Go.Addr.add, ↓reduceIte] at hx392_0)
                                    have qi392 : (3 < t384.length) = True := eq_true (by omega)
                                    (try rw [show ((3 : Int)).toNat = 3 from rfl] at hx392_0)
                                    replace p392 := eq_true p392
                                    replace q392 := eq_true q392
                                    have q26 : (8 : Int) ≤ ((t384.length : Int) : Int) := of_decide_eq_true (by first | (with_reducible assumption) | assumption)
                                    obtain ⟨i026, hi026, _, hsz26, _⟩ := info_parts info3
                                    have hroom26 : t384.length ≤ co25 := (Kd.R_reads' HO_4.out).2.1
                                    have hC26 : Kd.C (Kd.int .i64) _ (some ad389) t384.length t384 := (Kd.R_reads' HO_4.out).2.2
                                    have ql26 : (4 : Int) ≤ (8 : Int) := (by omega)
                                    have hcut26 := cut_mid (P := Try.prog) 29 3 .i64 .i64 Try.underlying29 hi026 1 hsz26 (some ad389) t384.length co25 4 8 (by omega) ql26 q26 hroom26
                                    have hr26 := Kd.C_mid (lo := (4 : Int).toNat) (hi := (8 : Int).toNat) (c := co25) hC26 (by omega) (by omega) hroom26
                                    obtain ⟨A26, hA26⟩ : ∃ Az_, Az_ = (if co25 = (4 : Int).toNat then (some ad389) else ((some ad389) : Option Addr).map (·.add ((4 : Int).toNat * 1))) := ⟨_, rfl⟩
                                    obtain ⟨c26, hc26⟩ : ∃ cz_, cz_ = co25 - (4 : Int).toNat := ⟨_, rfl⟩
                                    have hy26 : y393.length = (8 : Int).toNat - (4 : Int).toNat := (by rw [Ny393.out, List.length_drop, List.length_take] <;> omega)
                                    rw [show ((t384).take (8 : Int).toNat).drop (4 : Int).toNat = y393 from Ny393.out.symm] at hr26
                                    replace hr26 : Kd.C (Kd.int .i64) _ A26 y393.length y393 := (by rw [hA26]; exact hr26)
                                    rw [← hy26, ← hA26, ← hc26] at hcut26
                                    have HR396 := Aside0.mk hr26
                                    have HC396 := Aside0.mk (show y393.length ≤ c26 from by rw [hy26, hc26]; exact Nat.sub_le_sub_right (Nat.le_trans (by omega) hroom26) _)
                                    clear hr26 hC26 hroom26 hi026 hsz26 hc26
                                    have KY26 := Aside0.mk hy26
                                    have KA26 := Aside0.mk hA26
                                    clear hy26 hA26
                                    have KL26 := Aside0.mk (show 8 ≤ t384.length from by omega)
                                    have KM26 := Aside0.mk (show 4 ≤ 8 from by omega)
                                    replace q26 := eq_true q26
                                    have p397 : 0 ≤ (0 : Int) := (by omega)
                                    have q397 : 0 < (y393.length : Int) := of_decide_eq_true (by first | (with_reducible assumption) | assumption)
                                    obtain ⟨ad397, e397, hx397_0⟩ := Kd.at_int (by repeat (first | (with_reducible exact HR396.out) | (with_reducible refine Kd.C_alloc ?_ _) | (with_reducible refine Kd.C_drewN ?_ _) | (with_reducible refine Kd.C_drew ?_) | exact HR396.out)) 0 p397 q397
                                    cases e397
                                    have qi397 : (0 < y393.length) = True := eq_true (by omega)
                                    (try rw [show ((0 : Int)).toNat = 0 from rfl] at hx397_0)
                                    (try rw [Addr.add_zero'] at hx397_0)
                                    replace p397 := eq_true p397
                                    replace q397 := eq_true q397
                                    have p398 : 0 ≤ (1 : Int) := (by omega)
                                    have q398 : 1 < (y393.length : Int) := of_decide_eq_true (by first | (with_reducible assumption) | assumption)
                                    obtain ⟨ad398, e398, hx398_0⟩ := Kd.at_int (by repeat (first | (with_reducible exact HR396.out) | (with_reducible refine Kd.C_alloc ?_ _) | (with_reducible refine Kd.C_drewN ?_ _) | (with_reducible refine Kd.C_drew ?_) | exact HR396.out)) 1 p398 q398
                                    obtain rfl : ad397 = ad398 := (by injection e398)
                                    (try simp only [show (1 : Int).toNat = 1 from rfl, Nat.reduceMul, Nat.reduceEqDiff, Go.Addr.add, ↓reduceIte] at hx398_0)
                                    have qi398 : (1 < y393.length) = True := eq_true (by omega)
                                    (try rw [show ((1 : Int)).toNat = 1 from rfl] at hx398_0)
                                    replace p398 := eq_true p398
                                    replace q398 := eq_true q398
                                    have p399 : 0 ≤ (2 : Int) := (by omega)
                                    have q399 : 2 < (y393.length : Int) := of_decide_eq_true (by first | (with_reducible assumption) | assumption)
                                    obtain ⟨ad399, e399, hx399_0⟩ := Kd.at_int (by repeat (first | (with_reducible exact HR396.out) | (with_reducible refine Kd.C_alloc ?_ _) | (with_reducible refine Kd.C_drewN ?_ _) | (with_reducible refine Kd.C_drew ?_) | exact HR396.out)) 2 p399 q399
                                    obtain rfl : ad397 = ad399 := (by injection e399)
                                    (try simp only [show (2 : Int).toNat = 2 from rfl, Nat.reduceMul, Nat.reduceEqDiff, Go.Addr.add, ↓reduceIte] at hx399_0)
                                    have qi399 : (2 < y393.length) = True := eq_true (by omega)
                                    (try rw [show ((2 : Int)).toNat = 2 from rfl] at hx399_0)
                                    replace p399 := eq_true p399
                                    replace q399 := eq_true q399
                                    have p400 : 0 ≤ (3 : Int) := (by omega)
                                    have q400 : 3 < (y393.length : Int) := of_decide_eq_true (by first | (with_reducible assumption) | assumption)
                                    obtain ⟨ad400, e400, hx400_0⟩ := Kd.at_int (by repeat (first | (with_reducible exact HR396.out) | (with_reducible refine Kd.C_alloc ?_ _) | (with_reducible refine Kd.C_drewN ?_ _) | (with_reducible refine Kd.C_drew ?_) | exact HR396.out)) 3 p400 q400
                                    obtain rfl : ad397 = ad400 := (by injection e400)
                                    (try simp only [show (3 : Int).toNat = 3 from rfl, Nat.reduceMul, Nat.reduceEqDiff, Go.Addr.add, ↓reduceIte] at hx400_0)
                                    have qi400 : (3 < y393.length) = True := eq_true (by omega)
                                    (try rw [show ((3 : Int)).toNat = 3 from rfl] at hx400_0)
                                    replace p400 := eq_true p400
                                    replace q400 := eq_true q400
                                    have p401 : 0 ≤ (8 : Int) := (by omega)
                                    have q401 : 8 < (t384.length : Int) := of_decide_eq_true (by first | (with_reducible assumption) | assumption)
                                    obtain ⟨ad401, e401, hx401_0⟩ := Kd.at_int (Kd.R_reads' HO_4.out).2.2 8 p401 q401
                                    obtain rfl : ad389 = ad401 := (by injection e401)
                                    (try simp only [show (8 : Int).toNat = 8 from rfl, Nat.reduceMul, Nat.reduceEqDiff, Go.Addr.add, ↓reduceIte] at hx401_0)
                                    have qi401 : (8 < t384.length) = True := eq_true (by omega)
                                    (try rw [show ((8 : Int)).toNat = 8 from rfl] at hx401_0)
                                    replace p401 := eq_true p401
                                    replace q401 := eq_true q401
                                    have p402 : 0 ≤ (9 : Int) := (by omega)
                                    have q402 : 9 < (t384.length : Int) := of_decide_eq_true (by first | (with_reducible assumption) | assumption)
                                    obtain ⟨ad402, e402, hx402_0⟩ := Kd.at_int (Kd.R_reads' HO_4.out).2.2 9 p402 q402
                                    obtain rfl : ad389 = ad402 := (by injection e402)
                                    (try simp only [show (9 : Int).toNat = 9 from rfl, Nat.reduceMul, Nat.reduceEqDiff, Go.Addr.add, ↓reduceIte] at hx402_0)
                                    have qi402 : (9 < t384.length) = True := eq_true (by omega)
                                    (try rw [show ((9 : Int)).toNat = 9 from rfl] at hx402_0)
                                    replace p402 := eq_true p402
                                    replace q402 := eq_true q402
                                    refine start_ (n := 25) (S := fun w' => w'.cell? ad389 = some (.int .i64 (rd t384 0)) ∧ w'.cell? ⟨ad389.block, ad389.off + 1, none⟩ = some (.int .i64 (rd t384 1)) ∧ w'.cell? ⟨ad389.block, ad389.off + 2, none⟩ = some (.int .i64 (rd t384 2)) ∧ w'.cell? ⟨ad389.block, ad389.off + 3, none⟩ = some (.int .i64 (rd t384 3)) ∧ w'.cell? ad397 = some (.int .i64 (rd y393 0)) ∧ w'.cell? ⟨ad397.block, ad397.off + 1, none⟩ = some (.int .i64 (rd y393 1)) ∧ w'.cell? ⟨ad397.block, ad397.off + 2, none⟩ = some (.int .i64 (rd y393 2)) ∧ w'.cell? ⟨ad397.block, ad397.off + 3, none⟩ = some (.int .i64 (rd y393 3)) ∧ w'.cell? ⟨ad389.block, ad389.off + 8, none⟩ = some (.int .i64 (rd t384 8)) ∧ w'.cell? ⟨ad389.block, ad389.off + 9, none⟩ = some (.int .i64 (rd t384 9))) (ds := []) #[false, false, false, false, false, false, false, false, false, false, false, false, false, false, false, false, false, false, false, false, false, false, false, false, false] (by kernel_rfl) rfl rfl ⟨hx389_0, hx390_0, hx391_0, hx392_0, hx397_0, hx398_0, hx399_0, hx400_0, hx401_0, hx402_0⟩ (fun hHeld => ?_); refine with_tabW fold_Decode.tab4 fold_Decode.bits4 (fun HT_ HW_ => ?_)
                                    generalize wc.drew = w24 at HO_4 BK383 HB HR396 hx389_0 hx390_0 hx391_0 hx392_0 hx397_0 hx398_0 hx399_0 hx400_0 hx401_0 hx402_0 hHeld ⊢
                                    refine pure_ (i := 0) (N := some 21) (v := ?_) (a' := ?_) #[true, false, false, false, false, false, false, false, false, false, false, false, false, false, false, false, false, false, false, false, false, false, false, false, false] rfl rfl (any_of HT_.out (by kernel_rfl)) (fun _ _ _ h => h) (Or.inl ⟨by rfl, ?_⟩) ?_ ?_
                                    rotate_left
                                    · intro w'
                                      go_simp
                                      with_reducible rfl
                                    rotate_left
                                    · simp only [Act.put, List.setIfInBounds_toArray, List.set_cons_zero, List.set_cons_succ, i64_w, i32_w]
                                      rfl
                                    refine pure_ (i := 1) (N := some 22) (v := ?_) (a' := ?_) #[true, true, false, false, false, false, false, false, false, false, false, false, false, false, false, false, false, false, false, false, false, false, false, false, false] rfl rfl (any_of HT_.out (by kernel_rfl)) (fun _ _ _ h => h) (Or.inl ⟨by rfl, ?_⟩) ?_ ?_
                                    rotate_left
                                    · intro w'
                                      go_simp
                                      with_reducible rfl
                                    rotate_left
                                    · simp only [Act.put, List.setIfInBounds_toArray, List.set_cons_zero, List.set_cons_succ, i64_w, i32_w]
                                      rfl
                                    refine pure_ (i := 3) (N := some 24) (v := ?_) (a' := ?_) #[true, true, false, true, false, false, false, false, false, false, false, false, false, false, false, false, false, false, false, false, false, false, false, false, false] rfl rfl (any_of HT_.out (by kernel_rfl)) (fun _ _ _ h => h) (Or.inl ⟨by rfl, ?_⟩) ?_ ?_
                                    rotate_left
                                    · intro w'
                                      go_simp
                                      with_reducible rfl
                                    rotate_left
                                    · simp only [Act.put, List.setIfInBounds_toArray, List.set_cons_zero, List.set_cons_succ, i64_w, i32_w]
                                      rfl
                                    refine pure_ (i := 4) (N := some 25) (v := ?_) (a' := ?_) #[true, true, false, true, true, false, false, false, false, false, false, false, false, false, false, false, false, false, false, false, false, false, false, false, false] rfl rfl (any_of HT_.out (by kernel_rfl)) (fun _ _ _ h => h) (Or.inl ⟨by rfl, ?_⟩) ?_ ?_
                                    rotate_left
                                    · intro w'
                                      go_simp
                                      with_reducible rfl
                                    rotate_left
                                    · simp only [Act.put, List.setIfInBounds_toArray, List.set_cons_zero, List.set_cons_succ, i64_w, i32_w]
                                      rfl
                                    refine pure_ (i := 6) (N := some 27) (v := ?_) (a' := ?_) #[true, true, false, true, true, false, true, false, false, false, false, false, false, false, false, false, false, false, false, false, false, false, false, false, false] rfl rfl (any_of HT_.out (by kernel_rfl)) (fun _ _ _ h => h) (Or.inl ⟨by rfl, ?_⟩) ?_ ?_
                                    rotate_left
                                    · intro w'
                                      go_simp
                                      with_reducible rfl
                                    rotate_left
                                    · simp only [Act.put, List.setIfInBounds_toArray, List.set_cons_zero, List.set_cons_succ, i64_w, i32_w]
                                      rfl
                                    refine pure_ (i := 7) (N := some 28) (v := ?_) (a' := ?_) #[true, true, false, true, true, false, true, true, false, false, false, false, false, false, false, false, false, false, false, false, false, false, false, false, false] rfl rfl (any_of HT_.out (by kernel_rfl)) (fun _ _ _ h => h) (Or.inl ⟨by rfl, ?_⟩) ?_ ?_
                                    rotate_left
                                    · intro w'
                                      go_simp
                                      with_reducible rfl
                                    rotate_left
                                    · simp only [Act.put, List.setIfInBounds_toArray, List.set_cons_zero, List.set_cons_succ, i64_w, i32_w]
                                      rfl
                                    refine pure_ (i := 9) (N := some 30) (v := ?_) (a' := ?_) #[true, true, false, true, true, false, true, true, false, true, false, false, false, false, false, false, false, false, false, false, false, false, false, false, false] rfl rfl (any_of HT_.out (by kernel_rfl)) (fun _ _ _ h => h) (Or.inl ⟨by rfl, ?_⟩) ?_ ?_
                                    rotate_left
                                    · intro w'
                                      go_simp
                                      with_reducible rfl
                                    rotate_left
                                    · simp only [Act.put, List.setIfInBounds_toArray, List.set_cons_zero, List.set_cons_succ, i64_w, i32_w]
                                      rfl
                                    refine pure_ (i := 10) (N := some 31) (v := ?_) (a' := ?_) #[true, true, false, true, true, false, true, true, false, true, true, false, false, false, false, false, false, false, false, false, false, false, false, false, false] rfl rfl (any_of HT_.out (by kernel_rfl)) (fun _ _ _ h => h) (Or.inl ⟨by rfl, ?_⟩) ?_ ?_
                                    rotate_left
                                    · intro w'
                                      go_simp
                                      with_reducible rfl
                                    rotate_left
                                    · simp only [Act.put, List.setIfInBounds_toArray, List.set_cons_zero, List.set_cons_succ, i64_w, i32_w]
                                      rfl
                                    refine pure_ (i := 12) (N := some 33) (v := ?_) (a' := ?_) #[true, true, false, true, true, false, true, true, false, true, true, false, true, false, false, false, false, false, false, false, false, false, false, false, false] rfl rfl (any_of HT_.out (by kernel_rfl)) (fun _ _ _ h => h) (Or.inl ⟨by rfl, ?_⟩) ?_ ?_
                                    rotate_left
                                    · intro w'
                                      go_simp
                                      with_reducible rfl
                                    rotate_left
                                    · simp only [Act.put, List.setIfInBounds_toArray, List.set_cons_zero, List.set_cons_succ, i64_w, i32_w]
                                      rfl
                                    refine pure_ (i := 13) (N := some 34) (v := ?_) (a' := ?_) #[true, true, false, true, true, false, true, true, false, true, true, false, true, true, false, false, false, false, false, false, false, false, false, false, false] rfl rfl (any_of HT_.out (by kernel_rfl)) (fun _ _ _ h => h) (Or.inl ⟨by rfl, ?_⟩) ?_ ?_
                                    rotate_left
                                    · intro w'
                                      go_simp
                                      with_reducible rfl
                                    rotate_left
                                    · simp only [Act.put, List.setIfInBounds_toArray, List.set_cons_zero, List.set_cons_succ, i64_w, i32_w]
                                      rfl
                                    refine pure_ (i := 14) (N := some 35) (v := ?_) (a' := ?_) #[true, true, false, true, true, false, true, true, false, true, true, false, true, true, true, false, false, false, false, false, false, false, false, false, false] rfl rfl (any_of HT_.out (by kernel_rfl)) (fun _ _ _ h => h) (Or.inl ⟨by rfl, ?_⟩) ?_ ?_
                                    rotate_left
                                    · intro w'
                                      go_simp
                                      with_reducible rfl
                                    rotate_left
                                    · simp only [Act.put, List.setIfInBounds_toArray, List.set_cons_zero, List.set_cons_succ, i64_w, i32_w]
                                      rfl
                                    refine pure_ (i := 16) (N := some 37) (v := ?_) (a' := ?_) #[true, true, false, true, true, false, true, true, false, true, true, false, true, true, true, false, true, false, false, false, false, false, false, false, false] rfl rfl (any_of HT_.out (by kernel_rfl)) (fun _ _ _ h => h) (Or.inl ⟨by rfl, ?_⟩) ?_ ?_
                                    rotate_left
                                    · intro w'
                                      go_simp
                                      with_reducible rfl
                                    rotate_left
                                    · simp only [Act.put, List.setIfInBounds_toArray, List.set_cons_zero, List.set_cons_succ, i64_w, i32_w]
                                      rfl
                                    refine pure_ (i := 17) (N := some 38) (v := ?_) (a' := ?_) #[true, true, false, true, true, false, true, true, false, true, true, false, true, true, true, false, true, true, false, false, false, false, false, false, false] rfl rfl (any_of HT_.out (by kernel_rfl)) (fun _ _ _ h => h) (Or.inl ⟨by rfl, ?_⟩) ?_ ?_
                                    rotate_left
                                    · intro w'
                                      go_simp
                                      with_reducible rfl
                                    rotate_left
                                    · simp only [Act.put, List.setIfInBounds_toArray, List.set_cons_zero, List.set_cons_succ, i64_w, i32_w]
                                      rfl
                                    refine pure_ (i := 19) (N := some 40) (v := ?_) (a' := ?_) #[true, true, false, true, true, false, true, true, false, true, true, false, true, true, true, false, true, true, false, true, false, false, false, false, false] rfl rfl (any_of HT_.out (by kernel_rfl)) (fun _ _ _ h => h) (Or.inl ⟨by rfl, ?_⟩) ?_ ?_
                                    rotate_left
                                    · intro w'
                                      go_simp
                                      with_reducible rfl
                                    rotate_left
                                    · simp only [Act.put, List.setIfInBounds_toArray, List.set_cons_zero, List.set_cons_succ, i64_w, i32_w]
                                      rfl
                                    refine pure_ (i := 20) (N := some 41) (v := ?_) (a' := ?_) #[true, true, false, true, true, false, true, true, false, true, true, false, true, true, true, false, true, true, false, true, true, false, false, false, false] rfl rfl (any_of HT_.out (by kernel_rfl)) (fun _ _ _ h => h) (Or.inl ⟨by rfl, ?_⟩) ?_ ?_
                                    rotate_left
                                    · intro w'
                                      go_simp
                                      with_reducible rfl
                                    rotate_left
                                    · simp only [Act.put, List.setIfInBounds_toArray, List.set_cons_zero, List.set_cons_succ, i64_w, i32_w]
                                      rfl
                                    refine take_ (i := 2) (N := some 23) (v := ?_) (a' := ?_) #[true, true, true, true, true, false, true, true, false, true, true, false, true, true, true, false, true, true, false, true, true, false, false, false, false] rfl rfl (take_ofW HT_.out HW_.out (by kernel_rfl)) (fun _ _ _ h => h) (Or.inl ⟨by rfl, ?_⟩) hHeld ?_ ?_
                                    rotate_left
                                    · rintro w' ⟨s0, s1, s2, s3, s4, s5, s6, s7, s8, s9⟩
                                      go_simp
                                      with_reducible rfl
                                    rotate_left
                                    · simp only [Act.put, List.setIfInBounds_toArray, List.set_cons_zero, List.set_cons_succ, i64_w, i32_w]
                                      rfl
                                    refine take_ (i := 5) (N := some 26) (v := ?_) (a' := ?_) #[true, true, true, true, true, true, true, true, false, true, true, false, true, true, true, false, true, true, false, true, true, false, false, false, false] rfl rfl (take_ofW HT_.out HW_.out (by kernel_rfl)) (fun _ _ _ h => h) (Or.inl ⟨by rfl, ?_⟩) hHeld ?_ ?_
                                    rotate_left
                                    · rintro w' ⟨s0, s1, s2, s3, s4, s5, s6, s7, s8, s9⟩
                                      go_simp
                                      with_reducible rfl
                                    rotate_left
                                    · simp only [Act.put, List.setIfInBounds_toArray, List.set_cons_zero, List.set_cons_succ, i64_w, i32_w]
                                      rfl
                                    refine take_ (i := 8) (N := some 29) (v := ?_) (a' := ?_) #[true, true, true, true, true, true, true, true, true, true, true, false, true, true, true, false, true, true, false, true, true, false, false, false, false] rfl rfl (take_ofW HT_.out HW_.out (by kernel_rfl)) (fun _ _ _ h => h) (Or.inl ⟨by rfl, ?_⟩) hHeld ?_ ?_
                                    rotate_left
                                    · rintro w' ⟨s0, s1, s2, s3, s4, s5, s6, s7, s8, s9⟩
                                      go_simp
                                      with_reducible rfl
                                    rotate_left
                                    · simp only [Act.put, List.setIfInBounds_toArray, List.set_cons_zero, List.set_cons_succ, i64_w, i32_w]
                                      rfl
                                    refine take_ (i := 11) (N := some 32) (v := ?_) (a' := ?_) #[true, true, true, true, true, true, true, true, true, true, true, true, true, true, true, false, true, true, false, true, true, false, false, false, false] rfl rfl (take_ofW HT_.out HW_.out (by kernel_rfl)) (fun _ _ _ h => h) (Or.inl ⟨by rfl, ?_⟩) hHeld ?_ ?_
                                    rotate_left
                                    · rintro w' ⟨s0, s1, s2, s3, s4, s5, s6, s7, s8, s9⟩
                                      go_simp
                                      with_reducible rfl
                                    rotate_left
                                    · simp only [Act.put, List.setIfInBounds_toArray, List.set_cons_zero, List.set_cons_succ, i64_w, i32_w]
                                      rfl
                                    refine take_ (i := 15) (N := some 36) (v := ?_) (a' := ?_) #[true, true, true, true, true, true, true, true, true, true, true, true, true, true, true, true, true, true, false, true, true, false, false, false, false] rfl rfl (take_ofW HT_.out HW_.out (by kernel_rfl)) (fun _ _ _ h => h) (Or.inl ⟨by rfl, ?_⟩) hHeld ?_ ?_
                                    rotate_left
                                    · rintro w' ⟨s0, s1, s2, s3, s4, s5, s6, s7, s8, s9⟩
                                      go_simp
                                      with_reducible rfl
                                    rotate_left
                                    · simp only [Act.put, List.setIfInBounds_toArray, List.set_cons_zero, List.set_cons_succ, i64_w, i32_w]
                                      rfl
                                    refine take_ (i := 18) (N := some 39) (v := ?_) (a' := ?_) #[true, true, true, true, true, true, true, true, true, true, true, true, true, true, true, true, true, true, true, true, true, false, false, false, false] rfl rfl (take_ofW HT_.out HW_.out (by kernel_rfl)) (fun _ _ _ h => h) (Or.inl ⟨by rfl, ?_⟩) hHeld ?_ ?_
                                    rotate_left
                                    · rintro w' ⟨s0, s1, s2, s3, s4, s5, s6, s7, s8, s9⟩
                                      go_simp
                                      with_reducible rfl
                                    rotate_left
                                    · simp only [Act.put, List.setIfInBounds_toArray, List.set_cons_zero, List.set_cons_succ, i64_w, i32_w]
                                      rfl
                                    refine take_ (i := 21) (N := some 42) (v := ?_) (a' := ?_) #[true, true, true, true, true, true, true, true, true, true, true, true, true, true, true, true, true, true, true, true, true, true, false, false, false] rfl rfl (take_ofW HT_.out HW_.out (by kernel_rfl)) (fun _ _ _ h => h) (Or.inl ⟨by rfl, ?_⟩) hHeld ?_ ?_
                                    rotate_left
                                    · rintro w' ⟨s0, s1, s2, s3, s4, s5, s6, s7, s8, s9⟩
                                      go_simp
                                      with_reducible rfl
                                    rotate_left
                                    · simp only [Act.put, List.setIfInBounds_toArray, List.set_cons_zero, List.set_cons_succ, i64_w, i32_w]
                                      rfl
                                    refine pure_ (i := 22) (N := some 43) (v := ?_) (a' := ?_) #[true, true, true, true, true, true, true, true, true, true, true, true, true, true, true, true, true, true, true, true, true, true, true, false, false] rfl rfl (any_of HT_.out (by kernel_rfl)) (fun _ _ _ h => h) (Or.inl ⟨by rfl, ?_⟩) ?_ ?_
                                    rotate_left
                                    · intro w'
                                      go_simp
                                      with_reducible rfl
                                    rotate_left
                                    · simp only [Act.put, List.setIfInBounds_toArray, List.set_cons_zero, List.set_cons_succ, i64_w, i32_w]
                                      rfl
                                    refine one_ (i := 23) (N := some 7) #[true, true, true, true, true, true, true, true, true, true, true, true, true, true, true, true, true, true, true, true, true, true, true, true, false] rfl rfl (one_of HT_.out (by kernel_rfl)) (by decide) (fun K hK => ?_)
                                    refine box_step ?hg (N := 7) ?hd (cs := #[.int .i64 0, .int .i64 0, .int .i64 0, .int .i64 0, .int .i64 0, .int .i64 0, .int .i64 0, .int .i64 0, .int .i64 0, .int .i64 0]) (t := 24) ?hr ?_; (case hd => rfl); (case hg => rfl); (case hr => first | (go_simp; done) | (go_simp; rfl))
                                    intro gb403 hg w27 hbox hb
                                    have HS0_ := (hb.cell (World.block_lt_of_cell? _ _ (hHeld.1))).trans (hHeld.1)
                                    have HS1_ := (hb.cell (World.block_lt_of_cell? _ _ (hHeld.2.1))).trans (hHeld.2.1)
                                    have HS2_ := (hb.cell (World.block_lt_of_cell? _ _ (hHeld.2.2.1))).trans (hHeld.2.2.1)
                                    have HS3_ := (hb.cell (World.block_lt_of_cell? _ _ (hHeld.2.2.2.1))).trans (hHeld.2.2.2.1)
                                    have HS4_ := (hb.cell (World.block_lt_of_cell? _ _ (hHeld.2.2.2.2.1))).trans (hHeld.2.2.2.2.1)
                                    have HS5_ := (hb.cell (World.block_lt_of_cell? _ _ (hHeld.2.2.2.2.2.1))).trans (hHeld.2.2.2.2.2.1)
                                    have HS6_ := (hb.cell (World.block_lt_of_cell? _ _ (hHeld.2.2.2.2.2.2.1))).trans (hHeld.2.2.2.2.2.2.1)
                                    have HS7_ := (hb.cell (World.block_lt_of_cell? _ _ (hHeld.2.2.2.2.2.2.2.1))).trans (hHeld.2.2.2.2.2.2.2.1)
                                    have HS8_ := (hb.cell (World.block_lt_of_cell? _ _ (hHeld.2.2.2.2.2.2.2.2.1))).trans (hHeld.2.2.2.2.2.2.2.2.1)
                                    have HS9_ := (hb.cell (World.block_lt_of_cell? _ _ (hHeld.2.2.2.2.2.2.2.2.2))).trans (hHeld.2.2.2.2.2.2.2.2.2)
                                    have HNE0_403 : (ad389 : Addr).block ≠ gb403 := (by rw [hg]; exact Nat.ne_of_lt (World.block_lt_of_cell? _ _ (hHeld.1)))
                                    have HNE1_403 : (⟨ad389.block, ad389.off + 1, none⟩ : Addr).block ≠ gb403 := (by rw [hg]; exact Nat.ne_of_lt (World.block_lt_of_cell? _ _ (hHeld.2.1)))
                                    have HNE2_403 : (⟨ad389.block, ad389.off + 2, none⟩ : Addr).block ≠ gb403 := (by rw [hg]; exact Nat.ne_of_lt (World.block_lt_of_cell? _ _ (hHeld.2.2.1)))
                                    have HNE3_403 : (⟨ad389.block, ad389.off + 3, none⟩ : Addr).block ≠ gb403 := (by rw [hg]; exact Nat.ne_of_lt (World.block_lt_of_cell? _ _ (hHeld.2.2.2.1)))
                                    have HNE4_403 : (ad397 : Addr).block ≠ gb403 := (by rw [hg]; exact Nat.ne_of_lt (World.block_lt_of_cell? _ _ (hHeld.2.2.2.2.1)))
                                    have HNE5_403 : (⟨ad397.block, ad397.off + 1, none⟩ : Addr).block ≠ gb403 := (by rw [hg]; exact Nat.ne_of_lt (World.block_lt_of_cell? _ _ (hHeld.2.2.2.2.2.1)))
                                    have HNE6_403 : (⟨ad397.block, ad397.off + 2, none⟩ : Addr).block ≠ gb403 := (by rw [hg]; exact Nat.ne_of_lt (World.block_lt_of_cell? _ _ (hHeld.2.2.2.2.2.2.1)))
                                    have HNE7_403 : (⟨ad397.block, ad397.off + 3, none⟩ : Addr).block ≠ gb403 := (by rw [hg]; exact Nat.ne_of_lt (World.block_lt_of_cell? _ _ (hHeld.2.2.2.2.2.2.2.1)))
                                    have HNE8_403 : (⟨ad389.block, ad389.off + 8, none⟩ : Addr).block ≠ gb403 := (by rw [hg]; exact Nat.ne_of_lt (World.block_lt_of_cell? _ _ (hHeld.2.2.2.2.2.2.2.2.1)))
                                    have HNE9_403 : (⟨ad389.block, ad389.off + 9, none⟩ : Addr).block ≠ gb403 := (by rw [hg]; exact Nat.ne_of_lt (World.block_lt_of_cell? _ _ (hHeld.2.2.2.2.2.2.2.2.2)))
                                    have n0_ := Aside0.mk (Kd.R_below (by (with_reducible repeat (first | apply Kd.R_alloc | apply Kd.R_drewN | apply Kd.R_drew)); exact HO_4.out) hb)
                                    have n1_ := Aside0.mk (blk_below (g := gb383) (o := .cells #[.int .i64 0, .int .i64 0, .int .i64 0, .int .i64 0, .int .i64 0, .int .i64 0, .int .i64 0, .int .i64 0, .int .i64 0, .int .i64 0] 24 (0, 0)) (by (with_reducible repeat (first | refine blk_drewN ?_ _ | refine blk_drew ?_ | refine blk_alloc ?_ _)); exact BK383.out) hb)
                                    have n2_ := Aside0.mk (Kd.C_below (by repeat (first | (with_reducible exact HR396.out) | (with_reducible refine Kd.C_alloc ?_ _) | (with_reducible refine Kd.C_drewN ?_ _) | (with_reducible refine Kd.C_drew ?_) | exact HR396.out)) hb)
                                    have n3_ := Aside0.mk (below_step (by repeat (first | (with_reducible first | exact HB.out | apply below_alloc | apply pw_below_drewN | apply below_drew1 | refine below_set ?_ GE383.out) | exact HB.out)) hb)
                                    have n4_ := Aside0.mk (hbox)
                                    have n5_ := Aside0.mk ((by rw [hg]; exact (below_size (by repeat (first | (with_reducible first | exact HB.out | apply below_alloc | apply pw_below_drewN | apply below_drew1 | refine below_set ?_ GE383.out) | exact HB.out))) : w.heap.size ≤ gb403))
                                    have n6_ := Aside0.mk ((by rw [hg]; exact (below_size (by repeat (first | (with_reducible first | exact HB.out | apply below_alloc | apply pw_below_drewN | apply below_drew1 | refine below_set ?_ GE383.out) | exact HB.out))) : w.heap.size ≤ gb403))
                                    have n7_ := Aside0.mk ((by rw [hg]; exact Nat.ne_of_lt (blk_lt (g := gb383) (o := .cells #[.int .i64 0, .int .i64 0, .int .i64 0, .int .i64 0, .int .i64 0, .int .i64 0, .int .i64 0, .int .i64 0, .int .i64 0, .int .i64 0] 24 (0, 0)) (by (with_reducible repeat (first | refine blk_drewN ?_ _ | refine blk_drew ?_ | refine blk_alloc ?_ _)); exact BK383.out)) : gb383 ≠ gb403))
                                    have n8_ := Aside0.mk ((by rw [hg]; exact Nat.ne_of_gt (blk_lt (g := gb383) (o := .cells #[.int .i64 0, .int .i64 0, .int .i64 0, .int .i64 0, .int .i64 0, .int .i64 0, .int .i64 0, .int .i64 0, .int .i64 0, .int .i64 0] 24 (0, 0)) (by (with_reducible repeat (first | refine blk_drewN ?_ _ | refine blk_drew ?_ | refine blk_alloc ?_ _)); exact BK383.out)) : gb403 ≠ gb383))
                                    clear HO_4
                                    clear BK383
                                    clear HR396
                                    clear HB
                                    have HO_4 := n0_
                                    have BK383 := n1_
                                    have HR396 := n2_
                                    have HB := n3_
                                    have BK403 := n4_
                                    have GW403 := n5_
                                    have GE403 := n6_
                                    have NB383_403 := n7_
                                    have NB403_383 := n8_
                                    clear n0_ n1_ n2_ n3_ n4_ n5_ n6_ n7_ n8_
                                    clear hb hbox hg
                                    refine hK.out _ _ ⟨HS0_, HS1_, HS2_, HS3_, HS4_, HS5_, HS6_, HS7_, HS8_, HS9_⟩ (fun hHeld => ?_)
                                    clear hK K
                                    refine norm_ (a' := ?_) ?_ ?_
                                    rotate_left
                                    · show Act.put _ (some 7) _ = _
                                      simp only [Act.put, List.setIfInBounds_toArray, List.set_cons_zero, List.set_cons_succ, i64_w, i32_w]
                                      rfl
                                    refine one_ (i := 24) (N := none) #[true, true, true, true, true, true, true, true, true, true, true, true, true, true, true, true, true, true, true, true, true, true, true, true, true] rfl rfl (one_of HT_.out (by kernel_rfl)) (by decide) (fun K hK => ?_)
                                    have hs28 : w27.cell? ⟨gb403, 0, none⟩ = some (.int .i64 0) := (blk_cell BK403.out 0).trans rfl
                                    have hfs28 := blk_frozen BK403.out 0
                                    have hns28_0 := NB383_403.out
                                    have hms28_0 := NB403_383.out
                                    have hs29 : w27.cell? ⟨gb403, 1, none⟩ = some (.int .i64 0) := (blk_cell BK403.out 1).trans rfl
                                    have hfs29 := blk_frozen BK403.out 1
                                    have hns29_0 := NB383_403.out
                                    have hms29_0 := NB403_383.out
                                    have hs30 : w27.cell? ⟨gb403, 2, none⟩ = some (.int .i64 0) := (blk_cell BK403.out 2).trans rfl
                                    have hfs30 := blk_frozen BK403.out 2
                                    have hns30_0 := NB383_403.out
                                    have hms30_0 := NB403_383.out
                                    have hs31 : w27.cell? ⟨gb403, 3, none⟩ = some (.int .i64 0) := (blk_cell BK403.out 3).trans rfl
                                    have hfs31 := blk_frozen BK403.out 3
                                    have hns31_0 := NB383_403.out
                                    have hms31_0 := NB403_383.out
                                    have hs32 : w27.cell? ⟨gb403, 4, none⟩ = some (.int .i64 0) := (blk_cell BK403.out 4).trans rfl
                                    have hfs32 := blk_frozen BK403.out 4
                                    have hns32_0 := NB383_403.out
                                    have hms32_0 := NB403_383.out
                                    have hs33 : w27.cell? ⟨gb403, 5, none⟩ = some (.int .i64 0) := (blk_cell BK403.out 5).trans rfl
                                    have hfs33 := blk_frozen BK403.out 5
                                    have hns33_0 := NB383_403.out
                                    have hms33_0 := NB403_383.out
                                    have hs34 : w27.cell? ⟨gb403, 6, none⟩ = some (.int .i64 0) := (blk_cell BK403.out 6).trans rfl
                                    have hfs34 := blk_frozen BK403.out 6
                                    have hns34_0 := NB383_403.out
                                    have hms34_0 := NB403_383.out
                                    have hs35 : w27.cell? ⟨gb403, 7, none⟩ = some (.int .i64 0) := (blk_cell BK403.out 7).trans rfl
                                    have hfs35 := blk_frozen BK403.out 7
                                    have hns35_0 := NB383_403.out
                                    have hms35_0 := NB403_383.out
                                    have hs36 : w27.cell? ⟨gb403, 8, none⟩ = some (.int .i64 0) := (blk_cell BK403.out 8).trans rfl
                                    have hfs36 := blk_frozen BK403.out 8
                                    have hns36_0 := NB383_403.out
                                    have hms36_0 := NB403_383.out
                                    have hs37 : w27.cell? ⟨gb403, 9, none⟩ = some (.int .i64 0) := (blk_cell BK403.out 9).trans rfl
                                    have hfs37 := blk_frozen BK403.out 9
                                    have hns37_0 := NB383_403.out
                                    have hms37_0 := NB403_383.out
                                    refine skip_ (w1 := ?_) (by rfl) rfl ?_ ?_
                                    rotate_left
                                    · go_simp
                                      rfl
                                    refine hK.out _ _ ⟨(fold_Decode.far10 (g := gb403) (by first | exact HNE0_403 | exact Kd.own_blk (Kd.R_ne HO_4.out BK403.out (by decide)) | (rw [add_block]; exact Kd.own_blk (Kd.R_ne HO_4.out BK403.out (by decide))) | (show (Addr.add _ _).block ≠ _; rw [add_block]; exact Kd.own_blk (Kd.R_ne HO_4.out BK403.out (by decide))) | (dsimp only; exact Kd.own_blk (Kd.R_ne HO_4.out BK403.out (by decide)))) (hHeld.1)), (fold_Decode.far10 (g := gb403) (by first | exact HNE1_403 | exact Kd.own_blk (Kd.R_ne HO_4.out BK403.out (by decide)) | (rw [add_block]; exact Kd.own_blk (Kd.R_ne HO_4.out BK403.out (by decide))) | (show (Addr.add _ _).block ≠ _; rw [add_block]; exact Kd.own_blk (Kd.R_ne HO_4.out BK403.out (by decide))) | (dsimp only; exact Kd.own_blk (Kd.R_ne HO_4.out BK403.out (by decide)))) (hHeld.2.1)), (fold_Decode.far10 (g := gb403) (by first | exact HNE2_403 | exact Kd.own_blk (Kd.R_ne HO_4.out BK403.out (by decide)) | (rw [add_block]; exact Kd.own_blk (Kd.R_ne HO_4.out BK403.out (by decide))) | (show (Addr.add _ _).block ≠ _; rw [add_block]; exact Kd.own_blk (Kd.R_ne HO_4.out BK403.out (by decide))) | (dsimp only; exact Kd.own_blk (Kd.R_ne HO_4.out BK403.out (by decide)))) (hHeld.2.2.1)), (fold_Decode.far10 (g := gb403) (by first | exact HNE3_403 | exact Kd.own_blk (Kd.R_ne HO_4.out BK403.out (by decide)) | (rw [add_block]; exact Kd.own_blk (Kd.R_ne HO_4.out BK403.out (by decide))) | (show (Addr.add _ _).block ≠ _; rw [add_block]; exact Kd.own_blk (Kd.R_ne HO_4.out BK403.out (by decide))) | (dsimp only; exact Kd.own_blk (Kd.R_ne HO_4.out BK403.out (by decide)))) (hHeld.2.2.2.1)), (fold_Decode.far10 (g := gb403) (by first | exact HNE4_403 | exact Kd.own_blk (Kd.R_ne HR396.out BK403.out (by decide)) | (rw [add_block]; exact Kd.own_blk (Kd.R_ne HR396.out BK403.out (by decide))) | (show (Addr.add _ _).block ≠ _; rw [add_block]; exact Kd.own_blk (Kd.R_ne HR396.out BK403.out (by decide))) | (dsimp only; exact Kd.own_blk (Kd.R_ne HR396.out BK403.out (by decide)))) (hHeld.2.2.2.2.1)), (fold_Decode.far10 (g := gb403) (by first | exact HNE5_403 | exact Kd.own_blk (Kd.R_ne HR396.out BK403.out (by decide)) | (rw [add_block]; exact Kd.own_blk (Kd.R_ne HR396.out BK403.out (by decide))) | (show (Addr.add _ _).block ≠ _; rw [add_block]; exact Kd.own_blk (Kd.R_ne HR396.out BK403.out (by decide))) | (dsimp only; exact Kd.own_blk (Kd.R_ne HR396.out BK403.out (by decide)))) (hHeld.2.2.2.2.2.1)), (fold_Decode.far10 (g := gb403) (by first | exact HNE6_403 | exact Kd.own_blk (Kd.R_ne HR396.out BK403.out (by decide)) | (rw [add_block]; exact Kd.own_blk (Kd.R_ne HR396.out BK403.out (by decide))) | (show (Addr.add _ _).block ≠ _; rw [add_block]; exact Kd.own_blk (Kd.R_ne HR396.out BK403.out (by decide))) | (dsimp only; exact Kd.own_blk (Kd.R_ne HR396.out BK403.out (by decide)))) (hHeld.2.2.2.2.2.2.1)), (fold_Decode.far10 (g := gb403) (by first | exact HNE7_403 | exact Kd.own_blk (Kd.R_ne HR396.out BK403.out (by decide)) | (rw [add_block]; exact Kd.own_blk (Kd.R_ne HR396.out BK403.out (by decide))) | (show (Addr.add _ _).block ≠ _; rw [add_block]; exact Kd.own_blk (Kd.R_ne HR396.out BK403.out (by decide))) | (dsimp only; exact Kd.own_blk (Kd.R_ne HR396.out BK403.out (by decide)))) (hHeld.2.2.2.2.2.2.2.1)), (fold_Decode.far10 (g := gb403) (by first | exact HNE8_403 | exact Kd.own_blk (Kd.R_ne HO_4.out BK403.out (by decide)) | (rw [add_block]; exact Kd.own_blk (Kd.R_ne HO_4.out BK403.out (by decide))) | (show (Addr.add _ _).block ≠ _; rw [add_block]; exact Kd.own_blk (Kd.R_ne HO_4.out BK403.out (by decide))) | (dsimp only; exact Kd.own_blk (Kd.R_ne HO_4.out BK403.out (by decide)))) (hHeld.2.2.2.2.2.2.2.2.1)), (fold_Decode.far10 (g := gb403) (by first | exact HNE9_403 | exact Kd.own_blk (Kd.R_ne HO_4.out BK403.out (by decide)) | (rw [add_block]; exact Kd.own_blk (Kd.R_ne HO_4.out BK403.out (by decide))) | (show (Addr.add _ _).block ≠ _; rw [add_block]; exact Kd.own_blk (Kd.R_ne HO_4.out BK403.out (by decide))) | (dsimp only; exact Kd.own_blk (Kd.R_ne HO_4.out BK403.out (by decide)))) (hHeld.2.2.2.2.2.2.2.2.2))⟩ (fun hHeld => ?_)
                                    clear hK K
                                    refine done_ (done_of HT_.out (by kernel_rfl)) ?_
                                    have hnb38 := NB403_383.out
                                    have hnc38 := NB383_403.out
                                    have hcz39_0 : w27.cell? ⟨gb403, 0, none⟩ = some (.int .i64 0) := (blk_cell BK403.out 0).trans rfl
                                    have hcz39_1 : w27.cell? ⟨gb403, 1, none⟩ = some (.int .i64 0) := (blk_cell BK403.out 1).trans rfl
                                    have hcz39_2 : w27.cell? ⟨gb403, 2, none⟩ = some (.int .i64 0) := (blk_cell BK403.out 2).trans rfl
                                    have hcz39_3 : w27.cell? ⟨gb403, 3, none⟩ = some (.int .i64 0) := (blk_cell BK403.out 3).trans rfl
                                    have hcz39_4 : w27.cell? ⟨gb403, 4, none⟩ = some (.int .i64 0) := (blk_cell BK403.out 4).trans rfl
                                    have hcz39_5 : w27.cell? ⟨gb403, 5, none⟩ = some (.int .i64 0) := (blk_cell BK403.out 5).trans rfl
                                    have hcz39_6 : w27.cell? ⟨gb403, 6, none⟩ = some (.int .i64 0) := (blk_cell BK403.out 6).trans rfl
                                    have hcz39_7 : w27.cell? ⟨gb403, 7, none⟩ = some (.int .i64 0) := (blk_cell BK403.out 7).trans rfl
                                    have hcz39_8 : w27.cell? ⟨gb403, 8, none⟩ = some (.int .i64 0) := (blk_cell BK403.out 8).trans rfl
                                    have hcz39_9 : w27.cell? ⟨gb403, 9, none⟩ = some (.int .i64 0) := (blk_cell BK403.out 9).trans rfl
                                    have hfz39_0 := blk_frozen BK403.out 0
                                    have hfz39_1 := blk_frozen BK403.out 1
                                    have hfz39_2 := blk_frozen BK403.out 2
                                    have hfz39_3 := blk_frozen BK403.out 3
                                    have hfz39_4 := blk_frozen BK403.out 4
                                    have hfz39_5 := blk_frozen BK403.out 5
                                    have hfz39_6 := blk_frozen BK403.out 6
                                    have hfz39_7 := blk_frozen BK403.out 7
                                    have hfz39_8 := blk_frozen BK403.out 8
                                    have hfz39_9 := blk_frozen BK403.out 9
                                    try go_wp2_with (first | ((with_reducible refine gate_callee (f := 22) rfl ?_); refine goesL_ (some 45) rfl rfl Try.func22 (by kernel_rfl) rfl #[.agg #[.int .i64 (rd t384 0), .int .i64 (rd t384 1), .int .i64 (rd t384 2), .int .i64 (rd t384 3), .int .i64 (rd y393 0), .int .i64 (rd y393 1), .int .i64 (rd y393 2), .int .i64 (rd y393 3), .int .i64 (rd t384 8), .int .i64 (rd t384 9)]] rfl (by (try simp only [List.map_toArray, List.map_cons, List.map_nil]); first | done | rfl | (simp only [List.length_drop, List.length_take]; rfl)) ?_; (with_reducible refine (fold_Check.calls kj2 (rd t384 0) (rd t384 1) (rd t384 2) (rd t384 3) (rd y393 0) (rd y393 1) (rd y393 2) (rd y393 3) (rd t384 8) (rd t384 9) t404 _ A22.out).mono ?_); rintro e w40 ⟨rfl, hb⟩; refine ⟨_, rfl, ?_⟩; have n0_ := Aside0.mk (Kd.R_below (by (with_reducible repeat (first | apply Kd.R_alloc | apply Kd.R_drewN | apply Kd.R_drew)); exact (Kd.R_mono (Kd.R_far (p := ⟨gb403, 9, none⟩) (Kd.R_far (p := ⟨gb403, 8, none⟩) (Kd.R_far (p := ⟨gb403, 7, none⟩) (Kd.R_far (p := ⟨gb403, 6, none⟩) (Kd.R_far (p := ⟨gb403, 5, none⟩) (Kd.R_far (p := ⟨gb403, 4, none⟩) (Kd.R_far (p := ⟨gb403, 3, none⟩) (Kd.R_far (p := ⟨gb403, 2, none⟩) (Kd.R_far (p := ⟨gb403, 1, none⟩) (Kd.R_far (p := ⟨gb403, 0, none⟩) (Kd.R_types HO_4.out BK403.out (by decide)) (fun _ hk => hk.2) (.int .i64 (rd t384 0))) (fun _ hk => hk.2) (.int .i64 (rd t384 1))) (fun _ hk => hk.2) (.int .i64 (rd t384 2))) (fun _ hk => hk.2) (.int .i64 (rd t384 3))) (fun _ hk => hk.2) (.int .i64 (rd y393 0))) (fun _ hk => hk.2) (.int .i64 (rd y393 1))) (fun _ hk => hk.2) (.int .i64 (rd y393 2))) (fun _ hk => hk.2) (.int .i64 (rd y393 3))) (fun _ hk => hk.2) (.int .i64 (rd t384 8))) (fun _ hk => hk.2) (.int .i64 (rd t384 9))) (fun _ h_ => h_.1))) hb); have n1_ := Aside0.mk (blk_below (g := gb383) (o := .cells #[.int .i64 0, .int .i64 0, .int .i64 0, .int .i64 0, .int .i64 0, .int .i64 0, .int .i64 0, .int .i64 0, .int .i64 0, .int .i64 0] 24 (0, 0)) (by (with_reducible repeat (first | refine blk_drewN ?_ _ | refine blk_drew ?_ | refine blk_alloc ?_ _)); refine blk_far ?_ NB383_403.out _; (with_reducible repeat (first | refine blk_drewN ?_ _ | refine blk_drew ?_ | refine blk_alloc ?_ _)); refine blk_far ?_ NB383_403.out _; (with_reducible repeat (first | refine blk_drewN ?_ _ | refine blk_drew ?_ | refine blk_alloc ?_ _)); refine blk_far ?_ NB383_403.out _; (with_reducible repeat (first | refine blk_drewN ?_ _ | refine blk_drew ?_ | refine blk_alloc ?_ _)); refine blk_far ?_ NB383_403.out _; (with_reducible repeat (first | refine blk_drewN ?_ _ | refine blk_drew ?_ | refine blk_alloc ?_ _)); refine blk_far ?_ NB383_403.out _; (with_reducible repeat (first | refine blk_drewN ?_ _ | refine blk_drew ?_ | refine blk_alloc ?_ _)); refine blk_far ?_ NB383_403.out _; (with_reducible repeat (first | refine blk_drewN ?_ _ | refine blk_drew ?_ | refine blk_alloc ?_ _)); refine blk_far ?_ NB383_403.out _; (with_reducible repeat (first | refine blk_drewN ?_ _ | refine blk_drew ?_ | refine blk_alloc ?_ _)); refine blk_far ?_ NB383_403.out _; (with_reducible repeat (first | refine blk_drewN ?_ _ | refine blk_drew ?_ | refine blk_alloc ?_ _)); refine blk_far ?_ NB383_403.out _; (with_reducible repeat (first | refine blk_drewN ?_ _ | refine blk_drew ?_ | refine blk_alloc ?_ _)); refine blk_far ?_ NB383_403.out _; (with_reducible repeat (first | refine blk_drewN ?_ _ | refine blk_drew ?_ | refine blk_alloc ?_ _)); exact BK383.out) hb); have n2_ := Aside0.mk (blk_below (g := gb403) (o := .cells #[.int .i64 (rd t384 0), .int .i64 (rd t384 1), .int .i64 (rd t384 2), .int .i64 (rd t384 3), .int .i64 (rd y393 0), .int .i64 (rd y393 1), .int .i64 (rd y393 2), .int .i64 (rd y393 3), .int .i64 (rd t384 8), .int .i64 (rd t384 9)] 24 (0, 0)) (by (with_reducible repeat (first | refine blk_drewN ?_ _ | refine blk_drew ?_ | refine blk_alloc ?_ _)); refine blk_put (cs := #[.int .i64 (rd t384 0), .int .i64 (rd t384 1), .int .i64 (rd t384 2), .int .i64 (rd t384 3), .int .i64 (rd y393 0), .int .i64 (rd y393 1), .int .i64 (rd y393 2), .int .i64 (rd y393 3), .int .i64 (rd t384 8), .int .i64 0]) ?_ 9 _ rfl; (with_reducible repeat (first | refine blk_drewN ?_ _ | refine blk_drew ?_ | refine blk_alloc ?_ _)); refine blk_put (cs := #[.int .i64 (rd t384 0), .int .i64 (rd t384 1), .int .i64 (rd t384 2), .int .i64 (rd t384 3), .int .i64 (rd y393 0), .int .i64 (rd y393 1), .int .i64 (rd y393 2), .int .i64 (rd y393 3), .int .i64 0, .int .i64 0]) ?_ 8 _ rfl; (with_reducible repeat (first | refine blk_drewN ?_ _ | refine blk_drew ?_ | refine blk_alloc ?_ _)); refine blk_put (cs := #[.int .i64 (rd t384 0), .int .i64 (rd t384 1), .int .i64 (rd t384 2), .int .i64 (rd t384 3), .int .i64 (rd y393 0), .int .i64 (rd y393 1), .int .i64 (rd y393 2), .int .i64 0, .int .i64 0, .int .i64 0]) ?_ 7 _ rfl; (with_reducible repeat (first | refine blk_drewN ?_ _ | refine blk_drew ?_ | refine blk_alloc ?_ _)); refine blk_put (cs := #[.int .i64 (rd t384 0), .int .i64 (rd t384 1), .int .i64 (rd t384 2), .int .i64 (rd t384 3), .int .i64 (rd y393 0), .int .i64 (rd y393 1), .int .i64 0, .int .i64 0, .int .i64 0, .int .i64 0]) ?_ 6 _ rfl; (with_reducible repeat (first | refine blk_drewN ?_ _ | refine blk_drew ?_ | refine blk_alloc ?_ _)); refine blk_put (cs := #[.int .i64 (rd t384 0), .int .i64 (rd t384 1), .int .i64 (rd t384 2), .int .i64 (rd t384 3), .int .i64 (rd y393 0), .int .i64 0, .int .i64 0, .int .i64 0, .int .i64 0, .int .i64 0]) ?_ 5 _ rfl; (with_reducible repeat (first | refine blk_drewN ?_ _ | refine blk_drew ?_ | refine blk_alloc ?_ _)); refine blk_put (cs := #[.int .i64 (rd t384 0), .int .i64 (rd t384 1), .int .i64 (rd t384 2), .int .i64 (rd t384 3), .int .i64 0, .int .i64 0, .int .i64 0, .int .i64 0, .int .i64 0, .int .i64 0]) ?_ 4 _ rfl; (with_reducible repeat (first | refine blk_drewN ?_ _ | refine blk_drew ?_ | refine blk_alloc ?_ _)); refine blk_put (cs := #[.int .i64 (rd t384 0), .int .i64 (rd t384 1), .int .i64 (rd t384 2), .int .i64 0, .int .i64 0, .int .i64 0, .int .i64 0, .int .i64 0, .int .i64 0, .int .i64 0]) ?_ 3 _ rfl; (with_reducible repeat (first | refine blk_drewN ?_ _ | refine blk_drew ?_ | refine blk_alloc ?_ _)); refine blk_put (cs := #[.int .i64 (rd t384 0), .int .i64 (rd t384 1), .int .i64 0, .int .i64 0, .int .i64 0, .int .i64 0, .int .i64 0, .int .i64 0, .int .i64 0, .int .i64 0]) ?_ 2 _ rfl; (with_reducible repeat (first | refine blk_drewN ?_ _ | refine blk_drew ?_ | refine blk_alloc ?_ _)); refine blk_put (cs := #[.int .i64 (rd t384 0), .int .i64 0, .int .i64 0, .int .i64 0, .int .i64 0, .int .i64 0, .int .i64 0, .int .i64 0, .int .i64 0, .int .i64 0]) ?_ 1 _ rfl; (with_reducible repeat (first | refine blk_drewN ?_ _ | refine blk_drew ?_ | refine blk_alloc ?_ _)); refine blk_put (cs := #[.int .i64 0, .int .i64 0, .int .i64 0, .int .i64 0, .int .i64 0, .int .i64 0, .int .i64 0, .int .i64 0, .int .i64 0, .int .i64 0]) ?_ 0 _ rfl; (with_reducible repeat (first | refine blk_drewN ?_ _ | refine blk_drew ?_ | refine blk_alloc ?_ _)); exact BK403.out) hb); have n3_ := Aside0.mk (below_step (by repeat (first | (with_reducible first | exact HB.out | apply below_alloc | apply pw_below_drewN | apply below_drew1 | refine below_set ?_ GE383.out | refine below_set ?_ GE403.out) | exact HB.out)) hb); clear HO_4; clear BK383; clear BK403; clear HB; have HO_4 := n0_; have BK383 := n1_; have BK403 := n2_; have HB := n3_; clear n0_ n1_ n2_ n3_; (try clear hb); (try clear hb2); (try clear hk); (try clear hi); have hcz41_0 : w40.cell? ⟨gb403, 0, none⟩ = some (.int .i64 (rd t384 0)) := (blk_cell BK403.out 0).trans rfl; have hcz41_1 : w40.cell? ⟨gb403, 1, none⟩ = some (.int .i64 (rd t384 1)) := (blk_cell BK403.out 1).trans rfl; have hcz41_2 : w40.cell? ⟨gb403, 2, none⟩ = some (.int .i64 (rd t384 2)) := (blk_cell BK403.out 2).trans rfl; have hcz41_3 : w40.cell? ⟨gb403, 3, none⟩ = some (.int .i64 (rd t384 3)) := (blk_cell BK403.out 3).trans rfl; have hcz41_4 : w40.cell? ⟨gb403, 4, none⟩ = some (.int .i64 (rd y393 0)) := (blk_cell BK403.out 4).trans rfl; have hcz41_5 : w40.cell? ⟨gb403, 5, none⟩ = some (.int .i64 (rd y393 1)) := (blk_cell BK403.out 5).trans rfl; have hcz41_6 : w40.cell? ⟨gb403, 6, none⟩ = some (.int .i64 (rd y393 2)) := (blk_cell BK403.out 6).trans rfl; have hcz41_7 : w40.cell? ⟨gb403, 7, none⟩ = some (.int .i64 (rd y393 3)) := (blk_cell BK403.out 7).trans rfl; have hcz41_8 : w40.cell? ⟨gb403, 8, none⟩ = some (.int .i64 (rd t384 8)) := (blk_cell BK403.out 8).trans rfl; have hcz41_9 : w40.cell? ⟨gb403, 9, none⟩ = some (.int .i64 (rd t384 9)) := (blk_cell BK403.out 9).trans rfl; have hfz41_0 := blk_frozen BK403.out 0; have hfz41_1 := blk_frozen BK403.out 1; have hfz41_2 := blk_frozen BK403.out 2; have hfz41_3 := blk_frozen BK403.out 3; have hfz41_4 := blk_frozen BK403.out 4; have hfz41_5 := blk_frozen BK403.out 5; have hfz41_6 := blk_frozen BK403.out 6; have hfz41_7 := blk_frozen BK403.out 7; have hfz41_8 := blk_frozen BK403.out 8; have hfz41_9 := blk_frozen BK403.out 9; have hcz42_0 : w40.cell? ⟨gb383, 0, none⟩ = some (.int .i64 0) := (blk_cell BK383.out 0).trans rfl; have hcz42_1 : w40.cell? ⟨gb383, 1, none⟩ = some (.int .i64 0) := (blk_cell BK383.out 1).trans rfl; have hcz42_2 : w40.cell? ⟨gb383, 2, none⟩ = some (.int .i64 0) := (blk_cell BK383.out 2).trans rfl; have hcz42_3 : w40.cell? ⟨gb383, 3, none⟩ = some (.int .i64 0) := (blk_cell BK383.out 3).trans rfl; have hcz42_4 : w40.cell? ⟨gb383, 4, none⟩ = some (.int .i64 0) := (blk_cell BK383.out 4).trans rfl; have hcz42_5 : w40.cell? ⟨gb383, 5, none⟩ = some (.int .i64 0) := (blk_cell BK383.out 5).trans rfl; have hcz42_6 : w40.cell? ⟨gb383, 6, none⟩ = some (.int .i64 0) := (blk_cell BK383.out 6).trans rfl; have hcz42_7 : w40.cell? ⟨gb383, 7, none⟩ = some (.int .i64 0) := (blk_cell BK383.out 7).trans rfl; have hcz42_8 : w40.cell? ⟨gb383, 8, none⟩ = some (.int .i64 0) := (blk_cell BK383.out 8).trans rfl; have hcz42_9 : w40.cell? ⟨gb383, 9, none⟩ = some (.int .i64 0) := (blk_cell BK383.out 9).trans rfl; have hfz42_0 := blk_frozen BK383.out 0; have hfz42_1 := blk_frozen BK383.out 1; have hfz42_2 := blk_frozen BK383.out 2; have hfz42_3 := blk_frozen BK383.out 3; have hfz42_4 := blk_frozen BK383.out 4; have hfz42_5 := blk_frozen BK383.out 5; have hfz42_6 := blk_frozen BK383.out 6; have hfz42_7 := blk_frozen BK383.out 7; have hfz42_8 := blk_frozen BK383.out 8; have hfz42_9 := blk_frozen BK383.out 9))
                                    refine bodyPost_ret (results_ct rfl _ _ gb383 24 #[.int .i64 (rd t384 0), .int .i64 (rd t384 1), .int .i64 (rd t384 2), .int .i64 (rd t384 3), .int .i64 (rd y393 0), .int .i64 (rd y393 1), .int .i64 (rd y393 2), .int .i64 (rd y393 3), .int .i64 (rd t384 8), .int .i64 (rd t384 9)] (0, 0) _ rfl (by (with_reducible repeat (first | refine blk_drewN ?_ _ | refine blk_drew ?_ | refine blk_alloc ?_ _)); refine blk_put (cs := #[.int .i64 (rd t384 0), .int .i64 (rd t384 1), .int .i64 (rd t384 2), .int .i64 (rd t384 3), .int .i64 (rd y393 0), .int .i64 (rd y393 1), .int .i64 (rd y393 2), .int .i64 (rd y393 3), .int .i64 (rd t384 8), .int .i64 0]) ?_ 9 _ rfl; (with_reducible repeat (first | refine blk_drewN ?_ _ | refine blk_drew ?_ | refine blk_alloc ?_ _)); refine blk_put (cs := #[.int .i64 (rd t384 0), .int .i64 (rd t384 1), .int .i64 (rd t384 2), .int .i64 (rd t384 3), .int .i64 (rd y393 0), .int .i64 (rd y393 1), .int .i64 (rd y393 2), .int .i64 (rd y393 3), .int .i64 0, .int .i64 0]) ?_ 8 _ rfl; (with_reducible repeat (first | refine blk_drewN ?_ _ | refine blk_drew ?_ | refine blk_alloc ?_ _)); refine blk_put (cs := #[.int .i64 (rd t384 0), .int .i64 (rd t384 1), .int .i64 (rd t384 2), .int .i64 (rd t384 3), .int .i64 (rd y393 0), .int .i64 (rd y393 1), .int .i64 (rd y393 2), .int .i64 0, .int .i64 0, .int .i64 0]) ?_ 7 _ rfl; (with_reducible repeat (first | refine blk_drewN ?_ _ | refine blk_drew ?_ | refine blk_alloc ?_ _)); refine blk_put (cs := #[.int .i64 (rd t384 0), .int .i64 (rd t384 1), .int .i64 (rd t384 2), .int .i64 (rd t384 3), .int .i64 (rd y393 0), .int .i64 (rd y393 1), .int .i64 0, .int .i64 0, .int .i64 0, .int .i64 0]) ?_ 6 _ rfl; (with_reducible repeat (first | refine blk_drewN ?_ _ | refine blk_drew ?_ | refine blk_alloc ?_ _)); refine blk_put (cs := #[.int .i64 (rd t384 0), .int .i64 (rd t384 1), .int .i64 (rd t384 2), .int .i64 (rd t384 3), .int .i64 (rd y393 0), .int .i64 0, .int .i64 0, .int .i64 0, .int .i64 0, .int .i64 0]) ?_ 5 _ rfl; (with_reducible repeat (first | refine blk_drewN ?_ _ | refine blk_drew ?_ | refine blk_alloc ?_ _)); refine blk_put (cs := #[.int .i64 (rd t384 0), .int .i64 (rd t384 1), .int .i64 (rd t384 2), .int .i64 (rd t384 3), .int .i64 0, .int .i64 0, .int .i64 0, .int .i64 0, .int .i64 0, .int .i64 0]) ?_ 4 _ rfl; (with_reducible repeat (first | refine blk_drewN ?_ _ | refine blk_drew ?_ | refine blk_alloc ?_ _)); refine blk_put (cs := #[.int .i64 (rd t384 0), .int .i64 (rd t384 1), .int .i64 (rd t384 2), .int .i64 0, .int .i64 0, .int .i64 0, .int .i64 0, .int .i64 0, .int .i64 0, .int .i64 0]) ?_ 3 _ rfl; (with_reducible repeat (first | refine blk_drewN ?_ _ | refine blk_drew ?_ | refine blk_alloc ?_ _)); refine blk_put (cs := #[.int .i64 (rd t384 0), .int .i64 (rd t384 1), .int .i64 0, .int .i64 0, .int .i64 0, .int .i64 0, .int .i64 0, .int .i64 0, .int .i64 0, .int .i64 0]) ?_ 2 _ rfl; (with_reducible repeat (first | refine blk_drewN ?_ _ | refine blk_drew ?_ | refine blk_alloc ?_ _)); refine blk_put (cs := #[.int .i64 (rd t384 0), .int .i64 0, .int .i64 0, .int .i64 0, .int .i64 0, .int .i64 0, .int .i64 0, .int .i64 0, .int .i64 0, .int .i64 0]) ?_ 1 _ rfl; (with_reducible repeat (first | refine blk_drewN ?_ _ | refine blk_drew ?_ | refine blk_alloc ?_ _)); refine blk_put (cs := #[.int .i64 0, .int .i64 0, .int .i64 0, .int .i64 0, .int .i64 0, .int .i64 0, .int .i64 0, .int .i64 0, .int .i64 0, .int .i64 0]) ?_ 0 _ rfl; (with_reducible repeat (first | refine blk_drewN ?_ _ | refine blk_drew ?_ | refine blk_alloc ?_ _)); exact BK383.out) Try.underlying24 rfl (by kernel_rfl)) rfl ?_
                                    exact ⟨by first | rfl | (simp [errW_none, errW_some] <;> rfl) | (simp [*, errW_none, errW_some] <;> rfl), by repeat (first | (with_reducible first | exact HB.out | apply below_alloc | apply pw_below_drewN | apply below_drew1 | refine below_set ?_ GE383.out | refine below_set ?_ GE403.out) | exact HB.out)⟩
                                  · rw [if_neg c23] at H
                                    have c23b0 : (t404 == 0) = false := beq_eq_false_iff_ne.mpr c23
                                    have c23b1 : (t404 != 0) = true := bne_iff_ne.mpr c23
                                    simp only [Option.some.injEq, Prod.mk.injEq] at H
                                    obtain ⟨rfl, rfl, rfl, rfl, rfl, rfl, rfl, rfl, rfl, rfl, rfl⟩ := H
                                    try go_wp2
                                    have n0_ := Aside0.mk (Kd.R_drew HO_4.out)
                                    have n1_ := Aside0.mk (blk_drew BK383.out)
                                    have n2_ := Aside0.mk (below_drew1 HB.out)
                                    clear HO_4
                                    clear BK383
                                    clear HB
                                    have HO_4 := n0_
                                    have BK383 := n1_
                                    have HB := n2_
                                    clear n0_ n1_ n2_
                                    obtain ⟨Ao44, co44, eo44⟩ := Kd.R_slice HO_4.out
                                    (first | subst eo44 | (injection eo44 with f1_ f2_ f3_; have f4_ := f1_.symm; have f5_ := f3_.symm; clear f1_ f2_ f3_; subst f4_; subst f5_))
                                    have p389 : 0 ≤ (0 : Int) := (by omega)
                                    have q389 : 0 < (t384.length : Int) := of_decide_eq_true (by first | (with_reducible assumption) | assumption)
                                    obtain ⟨ad389, e389, hx389_0⟩ := Kd.at_int (Kd.R_reads' HO_4.out).2.2 0 p389 q389
                                    cases e389
                                    have qi389 : (0 < t384.length) = True := eq_true (by omega)
                                    (try rw [show ((0 : Int)).toNat = 0 from rfl] at hx389_0)
                                    (try rw [Addr.add_zero'] at hx389_0)
                                    replace p389 := eq_true p389
                                    replace q389 := eq_true q389
                                    have p390 : 0 ≤ (1 : Int) := (by omega)
                                    have q390 : 1 < (t384.length : Int) := of_decide_eq_true (by first | (with_reducible assumption) | assumption)
                                    obtain ⟨ad390, e390, hx390_0⟩ := Kd.at_int (Kd.R_reads' HO_4.out).2.2 1 p390 q390
                                    obtain rfl : ad389 = ad390 := (by injection e390)
                                    (try simp only [show (1 : Int).toNat = 1 from rfl, Nat.reduceMul, Nat.reduceEqDiff, Go.Addr.add, ↓reduceIte] at hx390_0)
                                    have qi390 : (1 < t384.length) = True := eq_true (by omega)
                                    (try rw [show ((1 : Int)).toNat = 1 from rfl] at hx390_0)
                                    replace p390 := eq_true p390
                                    replace q390 := eq_true q390
                                    have p391 : 0 ≤ (2 : Int) := (by omega)
                                    have q391 : 2 < (t384.length : Int) := of_decide_eq_true (by first | (with_reducible assumption) | assumption)
                                    obtain ⟨ad391, e391, hx391_0⟩ := Kd.at_int (Kd.R_reads' HO_4.out).2.2 2 p391 q391
                                    obtain rfl : ad389 = ad391 := (by injection e391)
                                    (try simp only [show (2 : Int).toNat = 2 from rfl, Nat.reduceMul, Nat.reduceEqDiff, Go.Addr.add, ↓reduceIte] at hx391_0)
                                    have qi391 : (2 < t384.length) = True := eq_true (by omega)
                                    (try rw [show ((2 : Int)).toNat = 2 from rfl] at hx391_0)
                                    replace p391 := eq_true p391
                                    replace q391 := eq_true q391
                                    have p392 : 0 ≤ (3 : Int) := (by omega)
                                    have q392 : 3 < (t384.length : Int) := of_decide_eq_true (by first | (with_reducible assumption) | assumption)
                                    obtain ⟨ad392, e392, hx392_0⟩ := Kd.at_int (Kd.R_reads' HO_4.out).2.2 3 p392 q392
                                    obtain rfl : ad389 = ad392 := (by injection e392)
                                    (try simp only [show (3 : Int).toNat = 3 from rfl, Nat.reduceMul, Nat.reduceEqDiff, Go.Addr.add, ↓reduceIte] at hx392_0)
                                    have qi392 : (3 < t384.length) = True := eq_true (by omega)
                                    (try rw [show ((3 : Int)).toNat = 3 from rfl] at hx392_0)
                                    replace p392 := eq_true p392
                                    replace q392 := eq_true q392
                                    have q45 : (8 : Int) ≤ ((t384.length : Int) : Int) := of_decide_eq_true (by first | (with_reducible assumption) | assumption)
                                    obtain ⟨i045, hi045, _, hsz45, _⟩ := info_parts info3
                                    have hroom45 : t384.length ≤ co44 := (Kd.R_reads' HO_4.out).2.1
                                    have hC45 : Kd.C (Kd.int .i64) _ (some ad389) t384.length t384 := (Kd.R_reads' HO_4.out).2.2
                                    have ql45 : (4 : Int) ≤ (8 : Int) := (by omega)
                                    have hcut45 := cut_mid (P := Try.prog) 29 3 .i64 .i64 Try.underlying29 hi045 1 hsz45 (some ad389) t384.length co44 4 8 (by omega) ql45 q45 hroom45
                                    have hr45 := Kd.C_mid (lo := (4 : Int).toNat) (hi := (8 : Int).toNat) (c := co44) hC45 (by omega) (by omega) hroom45
                                    obtain ⟨A45, hA45⟩ : ∃ Az_, Az_ = (if co44 = (4 : Int).toNat then (some ad389) else ((some ad389) : Option Addr).map (·.add ((4 : Int).toNat * 1))) := ⟨_, rfl⟩
                                    obtain ⟨c45, hc45⟩ : ∃ cz_, cz_ = co44 - (4 : Int).toNat := ⟨_, rfl⟩
                                    have hy45 : y393.length = (8 : Int).toNat - (4 : Int).toNat := (by rw [Ny393.out, List.length_drop, List.length_take] <;> omega)
                                    rw [show ((t384).take (8 : Int).toNat).drop (4 : Int).toNat = y393 from Ny393.out.symm] at hr45
                                    replace hr45 : Kd.C (Kd.int .i64) _ A45 y393.length y393 := (by rw [hA45]; exact hr45)
                                    rw [← hy45, ← hA45, ← hc45] at hcut45
                                    have HR396 := Aside0.mk hr45
                                    have HC396 := Aside0.mk (show y393.length ≤ c45 from by rw [hy45, hc45]; exact Nat.sub_le_sub_right (Nat.le_trans (by omega) hroom45) _)
                                    clear hr45 hC45 hroom45 hi045 hsz45 hc45
                                    have KY45 := Aside0.mk hy45
                                    have KA45 := Aside0.mk hA45
                                    clear hy45 hA45
                                    have KL45 := Aside0.mk (show 8 ≤ t384.length from by omega)
                                    have KM45 := Aside0.mk (show 4 ≤ 8 from by omega)
                                    replace q45 := eq_true q45
                                    have p397 : 0 ≤ (0 : Int) := (by omega)
                                    have q397 : 0 < (y393.length : Int) := of_decide_eq_true (by first | (with_reducible assumption) | assumption)
                                    obtain ⟨ad397, e397, hx397_0⟩ := Kd.at_int (by repeat (first | (with_reducible exact HR396.out) | (with_reducible refine Kd.C_alloc ?_ _) | (with_reducible refine Kd.C_drewN ?_ _) | (with_reducible refine Kd.C_drew ?_) | exact HR396.out)) 0 p397 q397
                                    cases e397
                                    have qi397 : (0 < y393.length) = True := eq_true (by omega)
                                    (try rw [show ((0 : Int)).toNat = 0 from rfl] at hx397_0)
                                    (try rw [Addr.add_zero'] at hx397_0)
                                    replace p397 := eq_true p397
                                    replace q397 := eq_true q397
                                    have p398 : 0 ≤ (1 : Int) := (by omega)
                                    have q398 : 1 < (y393.length : Int) := of_decide_eq_true (by first | (with_reducible assumption) | assumption)
                                    obtain ⟨ad398, e398, hx398_0⟩ := Kd.at_int (by repeat (first | (with_reducible exact HR396.out) | (with_reducible refine Kd.C_alloc ?_ _) | (with_reducible refine Kd.C_drewN ?_ _) | (with_reducible refine Kd.C_drew ?_) | exact HR396.out)) 1 p398 q398
                                    obtain rfl : ad397 = ad398 := (by injection e398)
                                    (try simp only [show (1 : Int).toNat = 1 from rfl, Nat.reduceMul, Nat.reduceEqDiff, Go.Addr.add, ↓reduceIte] at hx398_0)
                                    have qi398 : (1 < y393.length) = True := eq_true (by omega)
                                    (try rw [show ((1 : Int)).toNat = 1 from rfl] at hx398_0)
                                    replace p398 := eq_true p398
                                    replace q398 := eq_true q398
                                    have p399 : 0 ≤ (2 : Int) := (by omega)
                                    have q399 : 2 < (y393.length : Int) := of_decide_eq_true (by first | (with_reducible assumption) | assumption)
                                    obtain ⟨ad399, e399, hx399_0⟩ := Kd.at_int (by repeat (first | (with_reducible exact HR396.out) | (with_reducible refine Kd.C_alloc ?_ _) | (with_reducible refine Kd.C_drewN ?_ _) | (with_reducible refine Kd.C_drew ?_) | exact HR396.out)) 2 p399 q399
                                    obtain rfl : ad397 = ad399 := (by injection e399)
                                    (try simp only [show (2 : Int).toNat = 2 from rfl, Nat.reduceMul, Nat.reduceEqDiff, Go.Addr.add, ↓reduceIte] at hx399_0)
                                    have qi399 : (2 < y393.length) = True := eq_true (by omega)
                                    (try rw [show ((2 : Int)).toNat = 2 from rfl] at hx399_0)
                                    replace p399 := eq_true p399
                                    replace q399 := eq_true q399
                                    have p400 : 0 ≤ (3 : Int) := (by omega)
                                    have q400 : 3 < (y393.length : Int) := of_decide_eq_true (by first | (with_reducible assumption) | assumption)
                                    obtain ⟨ad400, e400, hx400_0⟩ := Kd.at_int (by repeat (first | (with_reducible exact HR396.out) | (with_reducible refine Kd.C_alloc ?_ _) | (with_reducible refine Kd.C_drewN ?_ _) | (with_reducible refine Kd.C_drew ?_) | exact HR396.out)) 3 p400 q400
                                    obtain rfl : ad397 = ad400 := (by injection e400)
                                    (try simp only [show (3 : Int).toNat = 3 from rfl, Nat.reduceMul, Nat.reduceEqDiff, Go.Addr.add, ↓reduceIte] at hx400_0)
                                    have qi400 : (3 < y393.length) = True := eq_true (by omega)
                                    (try rw [show ((3 : Int)).toNat = 3 from rfl] at hx400_0)
                                    replace p400 := eq_true p400
                                    replace q400 := eq_true q400
                                    have p401 : 0 ≤ (8 : Int) := (by omega)
                                    have q401 : 8 < (t384.length : Int) := of_decide_eq_true (by first | (with_reducible assumption) | assumption)
                                    obtain ⟨ad401, e401, hx401_0⟩ := Kd.at_int (Kd.R_reads' HO_4.out).2.2 8 p401 q401
                                    obtain rfl : ad389 = ad401 := (by injection e401)
                                    (try simp only [show (8 : Int).toNat = 8 from rfl, Nat.reduceMul, Nat.reduceEqDiff, Go.Addr.add, ↓reduceIte] at hx401_0)
                                    have qi401 : (8 < t384.length) = True := eq_true (by omega)
                                    (try rw [show ((8 : Int)).toNat = 8 from rfl] at hx401_0)
                                    replace p401 := eq_true p401
                                    replace q401 := eq_true q401
                                    have p402 : 0 ≤ (9 : Int) := (by omega)
                                    have q402 : 9 < (t384.length : Int) := of_decide_eq_true (by first | (with_reducible assumption) | assumption)
                                    obtain ⟨ad402, e402, hx402_0⟩ := Kd.at_int (Kd.R_reads' HO_4.out).2.2 9 p402 q402
                                    obtain rfl : ad389 = ad402 := (by injection e402)
                                    (try simp only [show (9 : Int).toNat = 9 from rfl, Nat.reduceMul, Nat.reduceEqDiff, Go.Addr.add, ↓reduceIte] at hx402_0)
                                    have qi402 : (9 < t384.length) = True := eq_true (by omega)
                                    (try rw [show ((9 : Int)).toNat = 9 from rfl] at hx402_0)
                                    replace p402 := eq_true p402
                                    replace q402 := eq_true q402
                                    refine start_ (n := 25) (S := fun w' => w'.cell? ad389 = some (.int .i64 (rd t384 0)) ∧ w'.cell? ⟨ad389.block, ad389.off + 1, none⟩ = some (.int .i64 (rd t384 1)) ∧ w'.cell? ⟨ad389.block, ad389.off + 2, none⟩ = some (.int .i64 (rd t384 2)) ∧ w'.cell? ⟨ad389.block, ad389.off + 3, none⟩ = some (.int .i64 (rd t384 3)) ∧ w'.cell? ad397 = some (.int .i64 (rd y393 0)) ∧ w'.cell? ⟨ad397.block, ad397.off + 1, none⟩ = some (.int .i64 (rd y393 1)) ∧ w'.cell? ⟨ad397.block, ad397.off + 2, none⟩ = some (.int .i64 (rd y393 2)) ∧ w'.cell? ⟨ad397.block, ad397.off + 3, none⟩ = some (.int .i64 (rd y393 3)) ∧ w'.cell? ⟨ad389.block, ad389.off + 8, none⟩ = some (.int .i64 (rd t384 8)) ∧ w'.cell? ⟨ad389.block, ad389.off + 9, none⟩ = some (.int .i64 (rd t384 9))) (ds := []) #[false, false, false, false, false, false, false, false, false, false, false, false, false, false, false, false, false, false, false, false, false, false, false, false, false] (by kernel_rfl) rfl rfl ⟨hx389_0, hx390_0, hx391_0, hx392_0, hx397_0, hx398_0, hx399_0, hx400_0, hx401_0, hx402_0⟩ (fun hHeld => ?_); refine with_tabW fold_Decode.tab4 fold_Decode.bits4 (fun HT_ HW_ => ?_)
                                    generalize wc.drew = w43 at HO_4 BK383 HB HR396 hx389_0 hx390_0 hx391_0 hx392_0 hx397_0 hx398_0 hx399_0 hx400_0 hx401_0 hx402_0 hHeld ⊢
                                    refine pure_ (i := 0) (N := some 21) (v := ?_) (a' := ?_) #[true, false, false, false, false, false, false, false, false, false, false, false, false, false, false, false, false, false, false, false, false, false, false, false, false] rfl rfl (any_of HT_.out (by kernel_rfl)) (fun _ _ _ h => h) (Or.inl ⟨by rfl, ?_⟩) ?_ ?_
                                    rotate_left
                                    · intro w'
                                      go_simp
                                      with_reducible rfl
                                    rotate_left
                                    · simp only [Act.put, List.setIfInBounds_toArray, List.set_cons_zero, List.set_cons_succ, i64_w, i32_w]
                                      rfl
                                    refine pure_ (i := 1) (N := some 22) (v := ?_) (a' := ?_) #[true, true, false, false, false, false, false, false, false, false, false, false, false, false, false, false, false, false, false, false, false, false, false, false, false] rfl rfl (any_of HT_.out (by kernel_rfl)) (fun _ _ _ h => h) (Or.inl ⟨by rfl, ?_⟩) ?_ ?_
                                    rotate_left
                                    · intro w'
                                      go_simp
                                      with_reducible rfl
                                    rotate_left
                                    · simp only [Act.put, List.setIfInBounds_toArray, List.set_cons_zero, List.set_cons_succ, i64_w, i32_w]
                                      rfl
                                    refine pure_ (i := 3) (N := some 24) (v := ?_) (a' := ?_) #[true, true, false, true, false, false, false, false, false, false, false, false, false, false, false, false, false, false, false, false, false, false, false, false, false] rfl rfl (any_of HT_.out (by kernel_rfl)) (fun _ _ _ h => h) (Or.inl ⟨by rfl, ?_⟩) ?_ ?_
                                    rotate_left
                                    · intro w'
                                      go_simp
                                      with_reducible rfl
                                    rotate_left
                                    · simp only [Act.put, List.setIfInBounds_toArray, List.set_cons_zero, List.set_cons_succ, i64_w, i32_w]
                                      rfl
                                    refine pure_ (i := 4) (N := some 25) (v := ?_) (a' := ?_) #[true, true, false, true, true, false, false, false, false, false, false, false, false, false, false, false, false, false, false, false, false, false, false, false, false] rfl rfl (any_of HT_.out (by kernel_rfl)) (fun _ _ _ h => h) (Or.inl ⟨by rfl, ?_⟩) ?_ ?_
                                    rotate_left
                                    · intro w'
                                      go_simp
                                      with_reducible rfl
                                    rotate_left
                                    · simp only [Act.put, List.setIfInBounds_toArray, List.set_cons_zero, List.set_cons_succ, i64_w, i32_w]
                                      rfl
                                    refine pure_ (i := 6) (N := some 27) (v := ?_) (a' := ?_) #[true, true, false, true, true, false, true, false, false, false, false, false, false, false, false, false, false, false, false, false, false, false, false, false, false] rfl rfl (any_of HT_.out (by kernel_rfl)) (fun _ _ _ h => h) (Or.inl ⟨by rfl, ?_⟩) ?_ ?_
                                    rotate_left
                                    · intro w'
                                      go_simp
                                      with_reducible rfl
                                    rotate_left
                                    · simp only [Act.put, List.setIfInBounds_toArray, List.set_cons_zero, List.set_cons_succ, i64_w, i32_w]
                                      rfl
                                    refine pure_ (i := 7) (N := some 28) (v := ?_) (a' := ?_) #[true, true, false, true, true, false, true, true, false, false, false, false, false, false, false, false, false, false, false, false, false, false, false, false, false] rfl rfl (any_of HT_.out (by kernel_rfl)) (fun _ _ _ h => h) (Or.inl ⟨by rfl, ?_⟩) ?_ ?_
                                    rotate_left
                                    · intro w'
                                      go_simp
                                      with_reducible rfl
                                    rotate_left
                                    · simp only [Act.put, List.setIfInBounds_toArray, List.set_cons_zero, List.set_cons_succ, i64_w, i32_w]
                                      rfl
                                    refine pure_ (i := 9) (N := some 30) (v := ?_) (a' := ?_) #[true, true, false, true, true, false, true, true, false, true, false, false, false, false, false, false, false, false, false, false, false, false, false, false, false] rfl rfl (any_of HT_.out (by kernel_rfl)) (fun _ _ _ h => h) (Or.inl ⟨by rfl, ?_⟩) ?_ ?_
                                    rotate_left
                                    · intro w'
                                      go_simp
                                      with_reducible rfl
                                    rotate_left
                                    · simp only [Act.put, List.setIfInBounds_toArray, List.set_cons_zero, List.set_cons_succ, i64_w, i32_w]
                                      rfl
                                    refine pure_ (i := 10) (N := some 31) (v := ?_) (a' := ?_) #[true, true, false, true, true, false, true, true, false, true, true, false, false, false, false, false, false, false, false, false, false, false, false, false, false] rfl rfl (any_of HT_.out (by kernel_rfl)) (fun _ _ _ h => h) (Or.inl ⟨by rfl, ?_⟩) ?_ ?_
                                    rotate_left
                                    · intro w'
                                      go_simp
                                      with_reducible rfl
                                    rotate_left
                                    · simp only [Act.put, List.setIfInBounds_toArray, List.set_cons_zero, List.set_cons_succ, i64_w, i32_w]
                                      rfl
                                    refine pure_ (i := 12) (N := some 33) (v := ?_) (a' := ?_) #[true, true, false, true, true, false, true, true, false, true, true, false, true, false, false, false, false, false, false, false, false, false, false, false, false] rfl rfl (any_of HT_.out (by kernel_rfl)) (fun _ _ _ h => h) (Or.inl ⟨by rfl, ?_⟩) ?_ ?_
                                    rotate_left
                                    · intro w'
                                      go_simp
                                      with_reducible rfl
                                    rotate_left
                                    · simp only [Act.put, List.setIfInBounds_toArray, List.set_cons_zero, List.set_cons_succ, i64_w, i32_w]
                                      rfl
                                    refine pure_ (i := 13) (N := some 34) (v := ?_) (a' := ?_) #[true, true, false, true, true, false, true, true, false, true, true, false, true, true, false, false, false, false, false, false, false, false, false, false, false] rfl rfl (any_of HT_.out (by kernel_rfl)) (fun _ _ _ h => h) (Or.inl ⟨by rfl, ?_⟩) ?_ ?_
                                    rotate_left
                                    · intro w'
                                      go_simp
                                      with_reducible rfl
                                    rotate_left
                                    · simp only [Act.put, List.setIfInBounds_toArray, List.set_cons_zero, List.set_cons_succ, i64_w, i32_w]
                                      rfl
                                    refine pure_ (i := 14) (N := some 35) (v := ?_) (a' := ?_) #[true, true, false, true, true, false, true, true, false, true, true, false, true, true, true, false, false, false, false, false, false, false, false, false, false] rfl rfl (any_of HT_.out (by kernel_rfl)) (fun _ _ _ h => h) (Or.inl ⟨by rfl, ?_⟩) ?_ ?_
                                    rotate_left
                                    · intro w'
                                      go_simp
                                      with_reducible rfl
                                    rotate_left
                                    · simp only [Act.put, List.setIfInBounds_toArray, List.set_cons_zero, List.set_cons_succ, i64_w, i32_w]
                                      rfl
                                    refine pure_ (i := 16) (N := some 37) (v := ?_) (a' := ?_) #[true, true, false, true, true, false, true, true, false, true, true, false, true, true, true, false, true, false, false, false, false, false, false, false, false] rfl rfl (any_of HT_.out (by kernel_rfl)) (fun _ _ _ h => h) (Or.inl ⟨by rfl, ?_⟩) ?_ ?_
                                    rotate_left
                                    · intro w'
                                      go_simp
                                      with_reducible rfl
                                    rotate_left
                                    · simp only [Act.put, List.setIfInBounds_toArray, List.set_cons_zero, List.set_cons_succ, i64_w, i32_w]
                                      rfl
                                    refine pure_ (i := 17) (N := some 38) (v := ?_) (a' := ?_) #[true, true, false, true, true, false, true, true, false, true, true, false, true, true, true, false, true, true, false, false, false, false, false, false, false] rfl rfl (any_of HT_.out (by kernel_rfl)) (fun _ _ _ h => h) (Or.inl ⟨by rfl, ?_⟩) ?_ ?_
                                    rotate_left
                                    · intro w'
                                      go_simp
                                      with_reducible rfl
                                    rotate_left
                                    · simp only [Act.put, List.setIfInBounds_toArray, List.set_cons_zero, List.set_cons_succ, i64_w, i32_w]
                                      rfl
                                    refine pure_ (i := 19) (N := some 40) (v := ?_) (a' := ?_) #[true, true, false, true, true, false, true, true, false, true, true, false, true, true, true, false, true, true, false, true, false, false, false, false, false] rfl rfl (any_of HT_.out (by kernel_rfl)) (fun _ _ _ h => h) (Or.inl ⟨by rfl, ?_⟩) ?_ ?_
                                    rotate_left
                                    · intro w'
                                      go_simp
                                      with_reducible rfl
                                    rotate_left
                                    · simp only [Act.put, List.setIfInBounds_toArray, List.set_cons_zero, List.set_cons_succ, i64_w, i32_w]
                                      rfl
                                    refine pure_ (i := 20) (N := some 41) (v := ?_) (a' := ?_) #[true, true, false, true, true, false, true, true, false, true, true, false, true, true, true, false, true, true, false, true, true, false, false, false, false] rfl rfl (any_of HT_.out (by kernel_rfl)) (fun _ _ _ h => h) (Or.inl ⟨by rfl, ?_⟩) ?_ ?_
                                    rotate_left
                                    · intro w'
                                      go_simp
                                      with_reducible rfl
                                    rotate_left
                                    · simp only [Act.put, List.setIfInBounds_toArray, List.set_cons_zero, List.set_cons_succ, i64_w, i32_w]
                                      rfl
                                    refine take_ (i := 2) (N := some 23) (v := ?_) (a' := ?_) #[true, true, true, true, true, false, true, true, false, true, true, false, true, true, true, false, true, true, false, true, true, false, false, false, false] rfl rfl (take_ofW HT_.out HW_.out (by kernel_rfl)) (fun _ _ _ h => h) (Or.inl ⟨by rfl, ?_⟩) hHeld ?_ ?_
                                    rotate_left
                                    · rintro w' ⟨s0, s1, s2, s3, s4, s5, s6, s7, s8, s9⟩
                                      go_simp
                                      with_reducible rfl
                                    rotate_left
                                    · simp only [Act.put, List.setIfInBounds_toArray, List.set_cons_zero, List.set_cons_succ, i64_w, i32_w]
                                      rfl
                                    refine take_ (i := 5) (N := some 26) (v := ?_) (a' := ?_) #[true, true, true, true, true, true, true, true, false, true, true, false, true, true, true, false, true, true, false, true, true, false, false, false, false] rfl rfl (take_ofW HT_.out HW_.out (by kernel_rfl)) (fun _ _ _ h => h) (Or.inl ⟨by rfl, ?_⟩) hHeld ?_ ?_
                                    rotate_left
                                    · rintro w' ⟨s0, s1, s2, s3, s4, s5, s6, s7, s8, s9⟩
                                      go_simp
                                      with_reducible rfl
                                    rotate_left
                                    · simp only [Act.put, List.setIfInBounds_toArray, List.set_cons_zero, List.set_cons_succ, i64_w, i32_w]
                                      rfl
                                    refine take_ (i := 8) (N := some 29) (v := ?_) (a' := ?_) #[true, true, true, true, true, true, true, true, true, true, true, false, true, true, true, false, true, true, false, true, true, false, false, false, false] rfl rfl (take_ofW HT_.out HW_.out (by kernel_rfl)) (fun _ _ _ h => h) (Or.inl ⟨by rfl, ?_⟩) hHeld ?_ ?_
                                    rotate_left
                                    · rintro w' ⟨s0, s1, s2, s3, s4, s5, s6, s7, s8, s9⟩
                                      go_simp
                                      with_reducible rfl
                                    rotate_left
                                    · simp only [Act.put, List.setIfInBounds_toArray, List.set_cons_zero, List.set_cons_succ, i64_w, i32_w]
                                      rfl
                                    refine take_ (i := 11) (N := some 32) (v := ?_) (a' := ?_) #[true, true, true, true, true, true, true, true, true, true, true, true, true, true, true, false, true, true, false, true, true, false, false, false, false] rfl rfl (take_ofW HT_.out HW_.out (by kernel_rfl)) (fun _ _ _ h => h) (Or.inl ⟨by rfl, ?_⟩) hHeld ?_ ?_
                                    rotate_left
                                    · rintro w' ⟨s0, s1, s2, s3, s4, s5, s6, s7, s8, s9⟩
                                      go_simp
                                      with_reducible rfl
                                    rotate_left
                                    · simp only [Act.put, List.setIfInBounds_toArray, List.set_cons_zero, List.set_cons_succ, i64_w, i32_w]
                                      rfl
                                    refine take_ (i := 15) (N := some 36) (v := ?_) (a' := ?_) #[true, true, true, true, true, true, true, true, true, true, true, true, true, true, true, true, true, true, false, true, true, false, false, false, false] rfl rfl (take_ofW HT_.out HW_.out (by kernel_rfl)) (fun _ _ _ h => h) (Or.inl ⟨by rfl, ?_⟩) hHeld ?_ ?_
                                    rotate_left
                                    · rintro w' ⟨s0, s1, s2, s3, s4, s5, s6, s7, s8, s9⟩
                                      go_simp
                                      with_reducible rfl
                                    rotate_left
                                    · simp only [Act.put, List.setIfInBounds_toArray, List.set_cons_zero, List.set_cons_succ, i64_w, i32_w]
                                      rfl
                                    refine take_ (i := 18) (N := some 39) (v := ?_) (a' := ?_) #[true, true, true, true, true, true, true, true, true, true, true, true, true, true, true, true, true, true, true, true, true, false, false, false, false] rfl rfl (take_ofW HT_.out HW_.out (by kernel_rfl)) (fun _ _ _ h => h) (Or.inl ⟨by rfl, ?_⟩) hHeld ?_ ?_
                                    rotate_left
                                    · rintro w' ⟨s0, s1, s2, s3, s4, s5, s6, s7, s8, s9⟩
                                      go_simp
                                      with_reducible rfl
                                    rotate_left
                                    · simp only [Act.put, List.setIfInBounds_toArray, List.set_cons_zero, List.set_cons_succ, i64_w, i32_w]
                                      rfl
                                    refine take_ (i := 21) (N := some 42) (v := ?_) (a' := ?_) #[true, true, true, true, true, true, true, true, true, true, true, true, true, true, true, true, true, true, true, true, true, true, false, false, false] rfl rfl (take_ofW HT_.out HW_.out (by kernel_rfl)) (fun _ _ _ h => h) (Or.inl ⟨by rfl, ?_⟩) hHeld ?_ ?_
                                    rotate_left
                                    · rintro w' ⟨s0, s1, s2, s3, s4, s5, s6, s7, s8, s9⟩
                                      go_simp
                                      with_reducible rfl
                                    rotate_left
                                    · simp only [Act.put, List.setIfInBounds_toArray, List.set_cons_zero, List.set_cons_succ, i64_w, i32_w]
                                      rfl
                                    refine pure_ (i := 22) (N := some 43) (v := ?_) (a' := ?_) #[true, true, true, true, true, true, true, true, true, true, true, true, true, true, true, true, true, true, true, true, true, true, true, false, false] rfl rfl (any_of HT_.out (by kernel_rfl)) (fun _ _ _ h => h) (Or.inl ⟨by rfl, ?_⟩) ?_ ?_
                                    rotate_left
                                    · intro w'
                                      go_simp
                                      with_reducible rfl
                                    rotate_left
                                    · simp only [Act.put, List.setIfInBounds_toArray, List.set_cons_zero, List.set_cons_succ, i64_w, i32_w]
                                      rfl
                                    refine one_ (i := 23) (N := some 7) #[true, true, true, true, true, true, true, true, true, true, true, true, true, true, true, true, true, true, true, true, true, true, true, true, false] rfl rfl (one_of HT_.out (by kernel_rfl)) (by decide) (fun K hK => ?_)
                                    refine box_step ?hg (N := 7) ?hd (cs := #[.int .i64 0, .int .i64 0, .int .i64 0, .int .i64 0, .int .i64 0, .int .i64 0, .int .i64 0, .int .i64 0, .int .i64 0, .int .i64 0]) (t := 24) ?hr ?_; (case hd => rfl); (case hg => rfl); (case hr => first | (go_simp; done) | (go_simp; rfl))
                                    intro gb403 hg w46 hbox hb
                                    have HS0_ := (hb.cell (World.block_lt_of_cell? _ _ (hHeld.1))).trans (hHeld.1)
                                    have HS1_ := (hb.cell (World.block_lt_of_cell? _ _ (hHeld.2.1))).trans (hHeld.2.1)
                                    have HS2_ := (hb.cell (World.block_lt_of_cell? _ _ (hHeld.2.2.1))).trans (hHeld.2.2.1)
                                    have HS3_ := (hb.cell (World.block_lt_of_cell? _ _ (hHeld.2.2.2.1))).trans (hHeld.2.2.2.1)
                                    have HS4_ := (hb.cell (World.block_lt_of_cell? _ _ (hHeld.2.2.2.2.1))).trans (hHeld.2.2.2.2.1)
                                    have HS5_ := (hb.cell (World.block_lt_of_cell? _ _ (hHeld.2.2.2.2.2.1))).trans (hHeld.2.2.2.2.2.1)
                                    have HS6_ := (hb.cell (World.block_lt_of_cell? _ _ (hHeld.2.2.2.2.2.2.1))).trans (hHeld.2.2.2.2.2.2.1)
                                    have HS7_ := (hb.cell (World.block_lt_of_cell? _ _ (hHeld.2.2.2.2.2.2.2.1))).trans (hHeld.2.2.2.2.2.2.2.1)
                                    have HS8_ := (hb.cell (World.block_lt_of_cell? _ _ (hHeld.2.2.2.2.2.2.2.2.1))).trans (hHeld.2.2.2.2.2.2.2.2.1)
                                    have HS9_ := (hb.cell (World.block_lt_of_cell? _ _ (hHeld.2.2.2.2.2.2.2.2.2))).trans (hHeld.2.2.2.2.2.2.2.2.2)
                                    have HNE0_403 : (ad389 : Addr).block ≠ gb403 := (by rw [hg]; exact Nat.ne_of_lt (World.block_lt_of_cell? _ _ (hHeld.1)))
                                    have HNE1_403 : (⟨ad389.block, ad389.off + 1, none⟩ : Addr).block ≠ gb403 := (by rw [hg]; exact Nat.ne_of_lt (World.block_lt_of_cell? _ _ (hHeld.2.1)))
                                    have HNE2_403 : (⟨ad389.block, ad389.off + 2, none⟩ : Addr).block ≠ gb403 := (by rw [hg]; exact Nat.ne_of_lt (World.block_lt_of_cell? _ _ (hHeld.2.2.1)))
                                    have HNE3_403 : (⟨ad389.block, ad389.off + 3, none⟩ : Addr).block ≠ gb403 := (by rw [hg]; exact Nat.ne_of_lt (World.block_lt_of_cell? _ _ (hHeld.2.2.2.1)))
                                    have HNE4_403 : (ad397 : Addr).block ≠ gb403 := (by rw [hg]; exact Nat.ne_of_lt (World.block_lt_of_cell? _ _ (hHeld.2.2.2.2.1)))
                                    have HNE5_403 : (⟨ad397.block, ad397.off + 1, none⟩ : Addr).block ≠ gb403 := (by rw [hg]; exact Nat.ne_of_lt (World.block_lt_of_cell? _ _ (hHeld.2.2.2.2.2.1)))
                                    have HNE6_403 : (⟨ad397.block, ad397.off + 2, none⟩ : Addr).block ≠ gb403 := (by rw [hg]; exact Nat.ne_of_lt (World.block_lt_of_cell? _ _ (hHeld.2.2.2.2.2.2.1)))
                                    have HNE7_403 : (⟨ad397.block, ad397.off + 3, none⟩ : Addr).block ≠ gb403 := (by rw [hg]; exact Nat.ne_of_lt (World.block_lt_of_cell? _ _ (hHeld.2.2.2.2.2.2.2.1)))
                                    have HNE8_403 : (⟨ad389.block, ad389.off + 8, none⟩ : Addr).block ≠ gb403 := (by rw [hg]; exact Nat.ne_of_lt (World.block_lt_of_cell? _ _ (hHeld.2.2.2.2.2.2.2.2.1)))
                                    have HNE9_403 : (⟨ad389.block, ad389.off + 9, none⟩ : Addr).block ≠ gb403 := (by rw [hg]; exact Nat.ne_of_lt (World.block_lt_of_cell? _ _ (hHeld.2.2.2.2.2.2.2.2.2)))
                                    have n0_ := Aside0.mk (Kd.R_below (by (with_reducible repeat (first | apply Kd.R_alloc | apply Kd.R_drewN | apply Kd.R_drew)); exact HO_4.out) hb)
                                    have n1_ := Aside0.mk (blk_below (g := gb383) (o := .cells #[.int .i64 0, .int .i64 0, .int .i64 0, .int .i64 0, .int .i64 0, .int .i64 0, .int .i64 0, .int .i64 0, .int .i64 0, .int .i64 0] 24 (0, 0)) (by (with_reducible repeat (first | refine blk_drewN ?_ _ | refine blk_drew ?_ | refine blk_alloc ?_ _)); exact BK383.out) hb)
                                    have n2_ := Aside0.mk (Kd.C_below (by repeat (first | (with_reducible exact HR396.out) | (with_reducible refine Kd.C_alloc ?_ _) | (with_reducible refine Kd.C_drewN ?_ _) | (with_reducible refine Kd.C_drew ?_) | exact HR396.out)) hb)
                                    have n3_ := Aside0.mk (below_step (by repeat (first | (with_reducible first | exact HB.out | apply below_alloc | apply pw_below_drewN | apply below_drew1 | refine below_set ?_ GE383.out) | exact HB.out)) hb)
                                    have n4_ := Aside0.mk (hbox)
                                    have n5_ := Aside0.mk ((by rw [hg]; exact (below_size (by repeat (first | (with_reducible first | exact HB.out | apply below_alloc | apply pw_below_drewN | apply below_drew1 | refine below_set ?_ GE383.out) | exact HB.out))) : w.heap.size ≤ gb403))
                                    have n6_ := Aside0.mk ((by rw [hg]; exact (below_size (by repeat (first | (with_reducible first | exact HB.out | apply below_alloc | apply pw_below_drewN | apply below_drew1 | refine below_set ?_ GE383.out) | exact HB.out))) : w.heap.size ≤ gb403))
                                    have n7_ := Aside0.mk ((by rw [hg]; exact Nat.ne_of_lt (blk_lt (g := gb383) (o := .cells #[.int .i64 0, .int .i64 0, .int .i64 0, .int .i64 0, .int .i64 0, .int .i64 0, .int .i64 0, .int .i64 0, .int .i64 0, .int .i64 0] 24 (0, 0)) (by (with_reducible repeat (first | refine blk_drewN ?_ _ | refine blk_drew ?_ | refine blk_alloc ?_ _)); exact BK383.out)) : gb383 ≠ gb403))
                                    have n8_ := Aside0.mk ((by rw [hg]; exact Nat.ne_of_gt (blk_lt (g := gb383) (o := .cells #[.int .i64 0, .int .i64 0, .int .i64 0, .int .i64 0, .int .i64 0, .int .i64 0, .int .i64 0, .int .i64 0, .int .i64 0, .int .i64 0] 24 (0, 0)) (by (with_reducible repeat (first | refine blk_drewN ?_ _ | refine blk_drew ?_ | refine blk_alloc ?_ _)); exact BK383.out)) : gb403 ≠ gb383))
                                    clear HO_4
                                    clear BK383
                                    clear HR396
                                    clear HB
                                    have HO_4 := n0_
                                    have BK383 := n1_
                                    have HR396 := n2_
                                    have HB := n3_
                                    have BK403 := n4_
                                    have GW403 := n5_
                                    have GE403 := n6_
                                    have NB383_403 := n7_
                                    have NB403_383 := n8_
                                    clear n0_ n1_ n2_ n3_ n4_ n5_ n6_ n7_ n8_
                                    clear hb hbox hg
                                    refine hK.out _ _ ⟨HS0_, HS1_, HS2_, HS3_, HS4_, HS5_, HS6_, HS7_, HS8_, HS9_⟩ (fun hHeld => ?_)
                                    clear hK K
                                    refine norm_ (a' := ?_) ?_ ?_
                                    rotate_left
                                    · show Act.put _ (some 7) _ = _
                                      simp only [Act.put, List.setIfInBounds_toArray, List.set_cons_zero, List.set_cons_succ, i64_w, i32_w]
                                      rfl
                                    refine one_ (i := 24) (N := none) #[true, true, true, true, true, true, true, true, true, true, true, true, true, true, true, true, true, true, true, true, true, true, true, true, true] rfl rfl (one_of HT_.out (by kernel_rfl)) (by decide) (fun K hK => ?_)
                                    have hs47 : w46.cell? ⟨gb403, 0, none⟩ = some (.int .i64 0) := (blk_cell BK403.out 0).trans rfl
                                    have hfs47 := blk_frozen BK403.out 0
                                    have hns47_0 := NB383_403.out
                                    have hms47_0 := NB403_383.out
                                    have hs48 : w46.cell? ⟨gb403, 1, none⟩ = some (.int .i64 0) := (blk_cell BK403.out 1).trans rfl
                                    have hfs48 := blk_frozen BK403.out 1
                                    have hns48_0 := NB383_403.out
                                    have hms48_0 := NB403_383.out
                                    have hs49 : w46.cell? ⟨gb403, 2, none⟩ = some (.int .i64 0) := (blk_cell BK403.out 2).trans rfl
                                    have hfs49 := blk_frozen BK403.out 2
                                    have hns49_0 := NB383_403.out
                                    have hms49_0 := NB403_383.out
                                    have hs50 : w46.cell? ⟨gb403, 3, none⟩ = some (.int .i64 0) := (blk_cell BK403.out 3).trans rfl
                                    have hfs50 := blk_frozen BK403.out 3
                                    have hns50_0 := NB383_403.out
                                    have hms50_0 := NB403_383.out
                                    have hs51 : w46.cell? ⟨gb403, 4, none⟩ = some (.int .i64 0) := (blk_cell BK403.out 4).trans rfl
                                    have hfs51 := blk_frozen BK403.out 4
                                    have hns51_0 := NB383_403.out
                                    have hms51_0 := NB403_383.out
                                    have hs52 : w46.cell? ⟨gb403, 5, none⟩ = some (.int .i64 0) := (blk_cell BK403.out 5).trans rfl
                                    have hfs52 := blk_frozen BK403.out 5
                                    have hns52_0 := NB383_403.out
                                    have hms52_0 := NB403_383.out
                                    have hs53 : w46.cell? ⟨gb403, 6, none⟩ = some (.int .i64 0) := (blk_cell BK403.out 6).trans rfl
                                    have hfs53 := blk_frozen BK403.out 6
                                    have hns53_0 := NB383_403.out
                                    have hms53_0 := NB403_383.out
                                    have hs54 : w46.cell? ⟨gb403, 7, none⟩ = some (.int .i64 0) := (blk_cell BK403.out 7).trans rfl
                                    have hfs54 := blk_frozen BK403.out 7
                                    have hns54_0 := NB383_403.out
                                    have hms54_0 := NB403_383.out
                                    have hs55 : w46.cell? ⟨gb403, 8, none⟩ = some (.int .i64 0) := (blk_cell BK403.out 8).trans rfl
                                    have hfs55 := blk_frozen BK403.out 8
                                    have hns55_0 := NB383_403.out
                                    have hms55_0 := NB403_383.out
                                    have hs56 : w46.cell? ⟨gb403, 9, none⟩ = some (.int .i64 0) := (blk_cell BK403.out 9).trans rfl
                                    have hfs56 := blk_frozen BK403.out 9
                                    have hns56_0 := NB383_403.out
                                    have hms56_0 := NB403_383.out
                                    refine skip_ (w1 := ?_) (by rfl) rfl ?_ ?_
                                    rotate_left
                                    · go_simp
                                      rfl
                                    refine hK.out _ _ ⟨(fold_Decode.far10 (g := gb403) (by first | exact HNE0_403 | exact Kd.own_blk (Kd.R_ne HO_4.out BK403.out (by decide)) | (rw [add_block]; exact Kd.own_blk (Kd.R_ne HO_4.out BK403.out (by decide))) | (show (Addr.add _ _).block ≠ _; rw [add_block]; exact Kd.own_blk (Kd.R_ne HO_4.out BK403.out (by decide))) | (dsimp only; exact Kd.own_blk (Kd.R_ne HO_4.out BK403.out (by decide)))) (hHeld.1)), (fold_Decode.far10 (g := gb403) (by first | exact HNE1_403 | exact Kd.own_blk (Kd.R_ne HO_4.out BK403.out (by decide)) | (rw [add_block]; exact Kd.own_blk (Kd.R_ne HO_4.out BK403.out (by decide))) | (show (Addr.add _ _).block ≠ _; rw [add_block]; exact Kd.own_blk (Kd.R_ne HO_4.out BK403.out (by decide))) | (dsimp only; exact Kd.own_blk (Kd.R_ne HO_4.out BK403.out (by decide)))) (hHeld.2.1)), (fold_Decode.far10 (g := gb403) (by first | exact HNE2_403 | exact Kd.own_blk (Kd.R_ne HO_4.out BK403.out (by decide)) | (rw [add_block]; exact Kd.own_blk (Kd.R_ne HO_4.out BK403.out (by decide))) | (show (Addr.add _ _).block ≠ _; rw [add_block]; exact Kd.own_blk (Kd.R_ne HO_4.out BK403.out (by decide))) | (dsimp only; exact Kd.own_blk (Kd.R_ne HO_4.out BK403.out (by decide)))) (hHeld.2.2.1)), (fold_Decode.far10 (g := gb403) (by first | exact HNE3_403 | exact Kd.own_blk (Kd.R_ne HO_4.out BK403.out (by decide)) | (rw [add_block]; exact Kd.own_blk (Kd.R_ne HO_4.out BK403.out (by decide))) | (show (Addr.add _ _).block ≠ _; rw [add_block]; exact Kd.own_blk (Kd.R_ne HO_4.out BK403.out (by decide))) | (dsimp only; exact Kd.own_blk (Kd.R_ne HO_4.out BK403.out (by decide)))) (hHeld.2.2.2.1)), (fold_Decode.far10 (g := gb403) (by first | exact HNE4_403 | exact Kd.own_blk (Kd.R_ne HR396.out BK403.out (by decide)) | (rw [add_block]; exact Kd.own_blk (Kd.R_ne HR396.out BK403.out (by decide))) | (show (Addr.add _ _).block ≠ _; rw [add_block]; exact Kd.own_blk (Kd.R_ne HR396.out BK403.out (by decide))) | (dsimp only; exact Kd.own_blk (Kd.R_ne HR396.out BK403.out (by decide)))) (hHeld.2.2.2.2.1)), (fold_Decode.far10 (g := gb403) (by first | exact HNE5_403 | exact Kd.own_blk (Kd.R_ne HR396.out BK403.out (by decide)) | (rw [add_block]; exact Kd.own_blk (Kd.R_ne HR396.out BK403.out (by decide))) | (show (Addr.add _ _).block ≠ _; rw [add_block]; exact Kd.own_blk (Kd.R_ne HR396.out BK403.out (by decide))) | (dsimp only; exact Kd.own_blk (Kd.R_ne HR396.out BK403.out (by decide)))) (hHeld.2.2.2.2.2.1)), (fold_Decode.far10 (g := gb403) (by first | exact HNE6_403 | exact Kd.own_blk (Kd.R_ne HR396.out BK403.out (by decide)) | (rw [add_block]; exact Kd.own_blk (Kd.R_ne HR396.out BK403.out (by decide))) | (show (Addr.add _ _).block ≠ _; rw [add_block]; exact Kd.own_blk (Kd.R_ne HR396.out BK403.out (by decide))) | (dsimp only; exact Kd.own_blk (Kd.R_ne HR396.out BK403.out (by decide)))) (hHeld.2.2.2.2.2.2.1)), (fold_Decode.far10 (g := gb403) (by first | exact HNE7_403 | exact Kd.own_blk (Kd.R_ne HR396.out BK403.out (by decide)) | (rw [add_block]; exact Kd.own_blk (Kd.R_ne HR396.out BK403.out (by decide))) | (show (Addr.add _ _).block ≠ _; rw [add_block]; exact Kd.own_blk (Kd.R_ne HR396.out BK403.out (by decide))) | (dsimp only; exact Kd.own_blk (Kd.R_ne HR396.out BK403.out (by decide)))) (hHeld.2.2.2.2.2.2.2.1)), (fold_Decode.far10 (g := gb403) (by first | exact HNE8_403 | exact Kd.own_blk (Kd.R_ne HO_4.out BK403.out (by decide)) | (rw [add_block]; exact Kd.own_blk (Kd.R_ne HO_4.out BK403.out (by decide))) | (show (Addr.add _ _).block ≠ _; rw [add_block]; exact Kd.own_blk (Kd.R_ne HO_4.out BK403.out (by decide))) | (dsimp only; exact Kd.own_blk (Kd.R_ne HO_4.out BK403.out (by decide)))) (hHeld.2.2.2.2.2.2.2.2.1)), (fold_Decode.far10 (g := gb403) (by first | exact HNE9_403 | exact Kd.own_blk (Kd.R_ne HO_4.out BK403.out (by decide)) | (rw [add_block]; exact Kd.own_blk (Kd.R_ne HO_4.out BK403.out (by decide))) | (show (Addr.add _ _).block ≠ _; rw [add_block]; exact Kd.own_blk (Kd.R_ne HO_4.out BK403.out (by decide))) | (dsimp only; exact Kd.own_blk (Kd.R_ne HO_4.out BK403.out (by decide)))) (hHeld.2.2.2.2.2.2.2.2.2))⟩ (fun hHeld => ?_)
                                    clear hK K
                                    refine done_ (done_of HT_.out (by kernel_rfl)) ?_
                                    have hnb57 := NB403_383.out
                                    have hnc57 := NB383_403.out
                                    have hcz58_0 : w46.cell? ⟨gb403, 0, none⟩ = some (.int .i64 0) := (blk_cell BK403.out 0).trans rfl
                                    have hcz58_1 : w46.cell? ⟨gb403, 1, none⟩ = some (.int .i64 0) := (blk_cell BK403.out 1).trans rfl
                                    have hcz58_2 : w46.cell? ⟨gb403, 2, none⟩ = some (.int .i64 0) := (blk_cell BK403.out 2).trans rfl
                                    have hcz58_3 : w46.cell? ⟨gb403, 3, none⟩ = some (.int .i64 0) := (blk_cell BK403.out 3).trans rfl
                                    have hcz58_4 : w46.cell? ⟨gb403, 4, none⟩ = some (.int .i64 0) := (blk_cell BK403.out 4).trans rfl
                                    have hcz58_5 : w46.cell? ⟨gb403, 5, none⟩ = some (.int .i64 0) := (blk_cell BK403.out 5).trans rfl
                                    have hcz58_6 : w46.cell? ⟨gb403, 6, none⟩ = some (.int .i64 0) := (blk_cell BK403.out 6).trans rfl
                                    have hcz58_7 : w46.cell? ⟨gb403, 7, none⟩ = some (.int .i64 0) := (blk_cell BK403.out 7).trans rfl
                                    have hcz58_8 : w46.cell? ⟨gb403, 8, none⟩ = some (.int .i64 0) := (blk_cell BK403.out 8).trans rfl
                                    have hcz58_9 : w46.cell? ⟨gb403, 9, none⟩ = some (.int .i64 0) := (blk_cell BK403.out 9).trans rfl
                                    have hfz58_0 := blk_frozen BK403.out 0
                                    have hfz58_1 := blk_frozen BK403.out 1
                                    have hfz58_2 := blk_frozen BK403.out 2
                                    have hfz58_3 := blk_frozen BK403.out 3
                                    have hfz58_4 := blk_frozen BK403.out 4
                                    have hfz58_5 := blk_frozen BK403.out 5
                                    have hfz58_6 := blk_frozen BK403.out 6
                                    have hfz58_7 := blk_frozen BK403.out 7
                                    have hfz58_8 := blk_frozen BK403.out 8
                                    have hfz58_9 := blk_frozen BK403.out 9
                                    try go_wp2_with (first | ((with_reducible refine gate_callee (f := 22) rfl ?_); refine goesL_ (some 45) rfl rfl Try.func22 (by kernel_rfl) rfl #[.agg #[.int .i64 (rd t384 0), .int .i64 (rd t384 1), .int .i64 (rd t384 2), .int .i64 (rd t384 3), .int .i64 (rd y393 0), .int .i64 (rd y393 1), .int .i64 (rd y393 2), .int .i64 (rd y393 3), .int .i64 (rd t384 8), .int .i64 (rd t384 9)]] rfl (by (try simp only [List.map_toArray, List.map_cons, List.map_nil]); first | done | rfl | (simp only [List.length_drop, List.length_take]; rfl)) ?_; (with_reducible refine (fold_Check.calls kj2 (rd t384 0) (rd t384 1) (rd t384 2) (rd t384 3) (rd y393 0) (rd y393 1) (rd y393 2) (rd y393 3) (rd t384 8) (rd t384 9) t404 _ A22.out).mono ?_); rintro e w59 ⟨rfl, hb⟩; refine ⟨_, rfl, ?_⟩; have n0_ := Aside0.mk (Kd.R_below (by (with_reducible repeat (first | apply Kd.R_alloc | apply Kd.R_drewN | apply Kd.R_drew)); exact (Kd.R_mono (Kd.R_far (p := ⟨gb403, 9, none⟩) (Kd.R_far (p := ⟨gb403, 8, none⟩) (Kd.R_far (p := ⟨gb403, 7, none⟩) (Kd.R_far (p := ⟨gb403, 6, none⟩) (Kd.R_far (p := ⟨gb403, 5, none⟩) (Kd.R_far (p := ⟨gb403, 4, none⟩) (Kd.R_far (p := ⟨gb403, 3, none⟩) (Kd.R_far (p := ⟨gb403, 2, none⟩) (Kd.R_far (p := ⟨gb403, 1, none⟩) (Kd.R_far (p := ⟨gb403, 0, none⟩) (Kd.R_types HO_4.out BK403.out (by decide)) (fun _ hk => hk.2) (.int .i64 (rd t384 0))) (fun _ hk => hk.2) (.int .i64 (rd t384 1))) (fun _ hk => hk.2) (.int .i64 (rd t384 2))) (fun _ hk => hk.2) (.int .i64 (rd t384 3))) (fun _ hk => hk.2) (.int .i64 (rd y393 0))) (fun _ hk => hk.2) (.int .i64 (rd y393 1))) (fun _ hk => hk.2) (.int .i64 (rd y393 2))) (fun _ hk => hk.2) (.int .i64 (rd y393 3))) (fun _ hk => hk.2) (.int .i64 (rd t384 8))) (fun _ hk => hk.2) (.int .i64 (rd t384 9))) (fun _ h_ => h_.1))) hb); have n1_ := Aside0.mk (blk_below (g := gb383) (o := .cells #[.int .i64 0, .int .i64 0, .int .i64 0, .int .i64 0, .int .i64 0, .int .i64 0, .int .i64 0, .int .i64 0, .int .i64 0, .int .i64 0] 24 (0, 0)) (by (with_reducible repeat (first | refine blk_drewN ?_ _ | refine blk_drew ?_ | refine blk_alloc ?_ _)); refine blk_far ?_ NB383_403.out _; (with_reducible repeat (first | refine blk_drewN ?_ _ | refine blk_drew ?_ | refine blk_alloc ?_ _)); refine blk_far ?_ NB383_403.out _; (with_reducible repeat (first | refine blk_drewN ?_ _ | refine blk_drew ?_ | refine blk_alloc ?_ _)); refine blk_far ?_ NB383_403.out _; (with_reducible repeat (first | refine blk_drewN ?_ _ | refine blk_drew ?_ | refine blk_alloc ?_ _)); refine blk_far ?_ NB383_403.out _; (with_reducible repeat (first | refine blk_drewN ?_ _ | refine blk_drew ?_ | refine blk_alloc ?_ _)); refine blk_far ?_ NB383_403.out _; (with_reducible repeat (first | refine blk_drewN ?_ _ | refine blk_drew ?_ | refine blk_alloc ?_ _)); refine blk_far ?_ NB383_403.out _; (with_reducible repeat (first | refine blk_drewN ?_ _ | refine blk_drew ?_ | refine blk_alloc ?_ _)); refine blk_far ?_ NB383_403.out _; (with_reducible repeat (first | refine blk_drewN ?_ _ | refine blk_drew ?_ | refine blk_alloc ?_ _)); refine blk_far ?_ NB383_403.out _; (with_reducible repeat (first | refine blk_drewN ?_ _ | refine blk_drew ?_ | refine blk_alloc ?_ _)); refine blk_far ?_ NB383_403.out _; (with_reducible repeat (first | refine blk_drewN ?_ _ | refine blk_drew ?_ | refine blk_alloc ?_ _)); refine blk_far ?_ NB383_403.out _; (with_reducible repeat (first | refine blk_drewN ?_ _ | refine blk_drew ?_ | refine blk_alloc ?_ _)); exact BK383.out) hb); have n2_ := Aside0.mk (blk_below (g := gb403) (o := .cells #[.int .i64 (rd t384 0), .int .i64 (rd t384 1), .int .i64 (rd t384 2), .int .i64 (rd t384 3), .int .i64 (rd y393 0), .int .i64 (rd y393 1), .int .i64 (rd y393 2), .int .i64 (rd y393 3), .int .i64 (rd t384 8), .int .i64 (rd t384 9)] 24 (0, 0)) (by (with_reducible repeat (first | refine blk_drewN ?_ _ | refine blk_drew ?_ | refine blk_alloc ?_ _)); refine blk_put (cs := #[.int .i64 (rd t384 0), .int .i64 (rd t384 1), .int .i64 (rd t384 2), .int .i64 (rd t384 3), .int .i64 (rd y393 0), .int .i64 (rd y393 1), .int .i64 (rd y393 2), .int .i64 (rd y393 3), .int .i64 (rd t384 8), .int .i64 0]) ?_ 9 _ rfl; (with_reducible repeat (first | refine blk_drewN ?_ _ | refine blk_drew ?_ | refine blk_alloc ?_ _)); refine blk_put (cs := #[.int .i64 (rd t384 0), .int .i64 (rd t384 1), .int .i64 (rd t384 2), .int .i64 (rd t384 3), .int .i64 (rd y393 0), .int .i64 (rd y393 1), .int .i64 (rd y393 2), .int .i64 (rd y393 3), .int .i64 0, .int .i64 0]) ?_ 8 _ rfl; (with_reducible repeat (first | refine blk_drewN ?_ _ | refine blk_drew ?_ | refine blk_alloc ?_ _)); refine blk_put (cs := #[.int .i64 (rd t384 0), .int .i64 (rd t384 1), .int .i64 (rd t384 2), .int .i64 (rd t384 3), .int .i64 (rd y393 0), .int .i64 (rd y393 1), .int .i64 (rd y393 2), .int .i64 0, .int .i64 0, .int .i64 0]) ?_ 7 _ rfl; (with_reducible repeat (first | refine blk_drewN ?_ _ | refine blk_drew ?_ | refine blk_alloc ?_ _)); refine blk_put (cs := #[.int .i64 (rd t384 0), .int .i64 (rd t384 1), .int .i64 (rd t384 2), .int .i64 (rd t384 3), .int .i64 (rd y393 0), .int .i64 (rd y393 1), .int .i64 0, .int .i64 0, .int .i64 0, .int .i64 0]) ?_ 6 _ rfl; (with_reducible repeat (first | refine blk_drewN ?_ _ | refine blk_drew ?_ | refine blk_alloc ?_ _)); refine blk_put (cs := #[.int .i64 (rd t384 0), .int .i64 (rd t384 1), .int .i64 (rd t384 2), .int .i64 (rd t384 3), .int .i64 (rd y393 0), .int .i64 0, .int .i64 0, .int .i64 0, .int .i64 0, .int .i64 0]) ?_ 5 _ rfl; (with_reducible repeat (first | refine blk_drewN ?_ _ | refine blk_drew ?_ | refine blk_alloc ?_ _)); refine blk_put (cs := #[.int .i64 (rd t384 0), .int .i64 (rd t384 1), .int .i64 (rd t384 2), .int .i64 (rd t384 3), .int .i64 0, .int .i64 0, .int .i64 0, .int .i64 0, .int .i64 0, .int .i64 0]) ?_ 4 _ rfl; (with_reducible repeat (first | refine blk_drewN ?_ _ | refine blk_drew ?_ | refine blk_alloc ?_ _)); refine blk_put (cs := #[.int .i64 (rd t384 0), .int .i64 (rd t384 1), .int .i64 (rd t384 2), .int .i64 0, .int .i64 0, .int .i64 0, .int .i64 0, .int .i64 0, .int .i64 0, .int .i64 0]) ?_ 3 _ rfl; (with_reducible repeat (first | refine blk_drewN ?_ _ | refine blk_drew ?_ | refine blk_alloc ?_ _)); refine blk_put (cs := #[.int .i64 (rd t384 0), .int .i64 (rd t384 1), .int .i64 0, .int .i64 0, .int .i64 0, .int .i64 0, .int .i64 0, .int .i64 0, .int .i64 0, .int .i64 0]) ?_ 2 _ rfl; (with_reducible repeat (first | refine blk_drewN ?_ _ | refine blk_drew ?_ | refine blk_alloc ?_ _)); refine blk_put (cs := #[.int .i64 (rd t384 0), .int .i64 0, .int .i64 0, .int .i64 0, .int .i64 0, .int .i64 0, .int .i64 0, .int .i64 0, .int .i64 0, .int .i64 0]) ?_ 1 _ rfl; (with_reducible repeat (first | refine blk_drewN ?_ _ | refine blk_drew ?_ | refine blk_alloc ?_ _)); refine blk_put (cs := #[.int .i64 0, .int .i64 0, .int .i64 0, .int .i64 0, .int .i64 0, .int .i64 0, .int .i64 0, .int .i64 0, .int .i64 0, .int .i64 0]) ?_ 0 _ rfl; (with_reducible repeat (first | refine blk_drewN ?_ _ | refine blk_drew ?_ | refine blk_alloc ?_ _)); exact BK403.out) hb); have n3_ := Aside0.mk (below_step (by repeat (first | (with_reducible first | exact HB.out | apply below_alloc | apply pw_below_drewN | apply below_drew1 | refine below_set ?_ GE383.out | refine below_set ?_ GE403.out) | exact HB.out)) hb); clear HO_4; clear BK383; clear BK403; clear HB; have HO_4 := n0_; have BK383 := n1_; have BK403 := n2_; have HB := n3_; clear n0_ n1_ n2_ n3_; (try clear hb); (try clear hb2); (try clear hk); (try clear hi); have hcz60_0 : w59.cell? ⟨gb383, 0, none⟩ = some (.int .i64 0) := (blk_cell BK383.out 0).trans rfl; have hcz60_1 : w59.cell? ⟨gb383, 1, none⟩ = some (.int .i64 0) := (blk_cell BK383.out 1).trans rfl; have hcz60_2 : w59.cell? ⟨gb383, 2, none⟩ = some (.int .i64 0) := (blk_cell BK383.out 2).trans rfl; have hcz60_3 : w59.cell? ⟨gb383, 3, none⟩ = some (.int .i64 0) := (blk_cell BK383.out 3).trans rfl; have hcz60_4 : w59.cell? ⟨gb383, 4, none⟩ = some (.int .i64 0) := (blk_cell BK383.out 4).trans rfl; have hcz60_5 : w59.cell? ⟨gb383, 5, none⟩ = some (.int .i64 0) := (blk_cell BK383.out 5).trans rfl; have hcz60_6 : w59.cell? ⟨gb383, 6, none⟩ = some (.int .i64 0) := (blk_cell BK383.out 6).trans rfl; have hcz60_7 : w59.cell? ⟨gb383, 7, none⟩ = some (.int .i64 0) := (blk_cell BK383.out 7).trans rfl; have hcz60_8 : w59.cell? ⟨gb383, 8, none⟩ = some (.int .i64 0) := (blk_cell BK383.out 8).trans rfl; have hcz60_9 : w59.cell? ⟨gb383, 9, none⟩ = some (.int .i64 0) := (blk_cell BK383.out 9).trans rfl; have hfz60_0 := blk_frozen BK383.out 0; have hfz60_1 := blk_frozen BK383.out 1; have hfz60_2 := blk_frozen BK383.out 2; have hfz60_3 := blk_frozen BK383.out 3; have hfz60_4 := blk_frozen BK383.out 4; have hfz60_5 := blk_frozen BK383.out 5; have hfz60_6 := blk_frozen BK383.out 6; have hfz60_7 := blk_frozen BK383.out 7; have hfz60_8 := blk_frozen BK383.out 8; have hfz60_9 := blk_frozen BK383.out 9))
                                    refine bodyPost_ret (results_ct rfl _ _ gb383 24 #[.int .i64 0, .int .i64 0, .int .i64 0, .int .i64 0, .int .i64 0, .int .i64 0, .int .i64 0, .int .i64 0, .int .i64 0, .int .i64 0] (0, 0) _ rfl (by (with_reducible repeat (first | refine blk_drewN ?_ _ | refine blk_drew ?_ | refine blk_alloc ?_ _)); refine blk_put (cs := #[.int .i64 0, .int .i64 0, .int .i64 0, .int .i64 0, .int .i64 0, .int .i64 0, .int .i64 0, .int .i64 0, .int .i64 0, .int .i64 0]) ?_ 9 _ rfl; (with_reducible repeat (first | refine blk_drewN ?_ _ | refine blk_drew ?_ | refine blk_alloc ?_ _)); refine blk_put (cs := #[.int .i64 0, .int .i64 0, .int .i64 0, .int .i64 0, .int .i64 0, .int .i64 0, .int .i64 0, .int .i64 0, .int .i64 0, .int .i64 0]) ?_ 8 _ rfl; (with_reducible repeat (first | refine blk_drewN ?_ _ | refine blk_drew ?_ | refine blk_alloc ?_ _)); refine blk_put (cs := #[.int .i64 0, .int .i64 0, .int .i64 0, .int .i64 0, .int .i64 0, .int .i64 0, .int .i64 0, .int .i64 0, .int .i64 0, .int .i64 0]) ?_ 7 _ rfl; (with_reducible repeat (first | refine blk_drewN ?_ _ | refine blk_drew ?_ | refine blk_alloc ?_ _)); refine blk_put (cs := #[.int .i64 0, .int .i64 0, .int .i64 0, .int .i64 0, .int .i64 0, .int .i64 0, .int .i64 0, .int .i64 0, .int .i64 0, .int .i64 0]) ?_ 6 _ rfl; (with_reducible repeat (first | refine blk_drewN ?_ _ | refine blk_drew ?_ | refine blk_alloc ?_ _)); refine blk_put (cs := #[.int .i64 0, .int .i64 0, .int .i64 0, .int .i64 0, .int .i64 0, .int .i64 0, .int .i64 0, .int .i64 0, .int .i64 0, .int .i64 0]) ?_ 5 _ rfl; (with_reducible repeat (first | refine blk_drewN ?_ _ | refine blk_drew ?_ | refine blk_alloc ?_ _)); refine blk_put (cs := #[.int .i64 0, .int .i64 0, .int .i64 0, .int .i64 0, .int .i64 0, .int .i64 0, .int .i64 0, .int .i64 0, .int .i64 0, .int .i64 0]) ?_ 4 _ rfl; (with_reducible repeat (first | refine blk_drewN ?_ _ | refine blk_drew ?_ | refine blk_alloc ?_ _)); refine blk_put (cs := #[.int .i64 0, .int .i64 0, .int .i64 0, .int .i64 0, .int .i64 0, .int .i64 0, .int .i64 0, .int .i64 0, .int .i64 0, .int .i64 0]) ?_ 3 _ rfl; (with_reducible repeat (first | refine blk_drewN ?_ _ | refine blk_drew ?_ | refine blk_alloc ?_ _)); refine blk_put (cs := #[.int .i64 0, .int .i64 0, .int .i64 0, .int .i64 0, .int .i64 0, .int .i64 0, .int .i64 0, .int .i64 0, .int .i64 0, .int .i64 0]) ?_ 2 _ rfl; (with_reducible repeat (first | refine blk_drewN ?_ _ | refine blk_drew ?_ | refine blk_alloc ?_ _)); refine blk_put (cs := #[.int .i64 0, .int .i64 0, .int .i64 0, .int .i64 0, .int .i64 0, .int .i64 0, .int .i64 0, .int .i64 0, .int .i64 0, .int .i64 0]) ?_ 1 _ rfl; (with_reducible repeat (first | refine blk_drewN ?_ _ | refine blk_drew ?_ | refine blk_alloc ?_ _)); refine blk_put (cs := #[.int .i64 0, .int .i64 0, .int .i64 0, .int .i64 0, .int .i64 0, .int .i64 0, .int .i64 0, .int .i64 0, .int .i64 0, .int .i64 0]) ?_ 0 _ rfl; (with_reducible repeat (first | refine blk_drewN ?_ _ | refine blk_drew ?_ | refine blk_alloc ?_ _)); exact BK383.out) Try.underlying24 rfl (by kernel_rfl)) rfl ?_
                                    exact ⟨by first | rfl | (simp [errW_none, errW_some] <;> rfl) | (simp [*, errW_none, errW_some] <;> rfl), by repeat (first | (with_reducible first | exact HB.out | apply below_alloc | apply pw_below_drewN | apply below_drew1 | refine below_set ?_ GE383.out | refine below_set ?_ GE403.out) | exact HB.out)⟩
                                · rw [if_neg c21] at H
                                  exact absurd H (by simp)
                              · rw [if_neg c20] at H
                                exact absurd H (by simp)
                            · rw [if_neg c19] at H
                              exact absurd H (by simp)
                          · rw [if_neg c18] at H
                            exact absurd H (by simp)
                        · rw [if_neg c17] at H
                          exact absurd H (by simp)
                      · rw [if_neg c16] at H
                        exact absurd H (by simp)
                    · rw [if_neg c15] at H
                      exact absurd H (by simp)
                  · rw [if_neg c14] at H
                    exact absurd H (by simp)
                · rw [if_neg c13] at H
                  exact absurd H (by simp)
              · rw [if_neg c12] at H
                exact absurd H (by simp)
            · rw [if_neg c11] at H
              exact absurd H (by simp)
          · rw [if_neg c10] at H
            exact absurd H (by simp)
        · rw [if_neg c9] at H
          exact absurd H (by simp)

end Go.Proofs.Ytpffggpedogifaa.P
