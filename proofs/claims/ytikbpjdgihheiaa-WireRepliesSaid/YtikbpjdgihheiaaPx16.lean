-- Written by wip/mk.py of this repo: the kit's print program, with contracts of our own among its functions.
import Derived.Test.YtikbpjdgihheiaaPx0
import Derived.Test.YtikbpjdgihheiaaPx14
import Derived.Test.YtikbpjdgihheiaaPx15
import Derived.Test.YtikbpjdgihheiaaZz
-- pressed
namespace Go.Proofs.Ytikbpjdgihheiaa.P
open Go.RowKit Go.Proofs.YtikbpjdgihheiaaW.PrintWords Go.Proofs.YtikbpjdgihheiaaW.PrintLast Go.Proofs.YtikbpjdgihheiaaW.PrintMore
attribute [local go_sem] max2_int min2_int max_two min_two max_three min_three max_four min_four   -- for this text's walks alone
attribute [local go_sem ↓] Kp.LDAsk_in
attribute [local go_sem] Kp.LDAsk_run
set_option linter.unusedVariables false
set_option linter.unusedSimpArgs false

/-! ### headgateref18_MayReply: function 28 -/
mutual
def headgateref18_MayReply.j0 : Nat → Bool → Int → Int → Int → Int → List Int → List (S59) → Option (Bool)
  | 0, _, _, _, _, _, _, _ => none
  | k + 1, x40, x190000, x190001, x190002, x190003, x190004, x190005 => if x40 = true then (some false) else (headgateref18_MayReply.l0 k 0 x190000 x190001 x190002 x190003 x190004 x190005)
def headgateref18_MayReply.l0 : Nat → Int → Int → Int → Int → Int → List Int → List (S59) → Option (Bool)
  | 0, _, _, _, _, _, _, _ => none
  | k + 1, x3, x190000, x190001, x190002, x190003, x190004, x190005 => if x3 < (x190005.length : Int) then (if 0 ≤ x3 then ((headgateref18_in.f k (([(rd_T59 x190005 x3).f0] : List Int))).bind fun t199 => (if t199 = true then ((headgateref06_MayRecord.f ((rd_T59 x190005 x3).f1.f0) ((rd_T59 x190005 x3).f1.f1) ((rd_T59 x190005 x3).f1.f2)).bind fun t201 => (if t201 = true then (headgateref18_MayReply.l0 k (wrap64 (x3 + 1)) x190000 x190001 x190002 x190003 x190004 x190005) else (some false))) else (some false))) else (none)) else (some true)
end
def headgateref18_MayReply.f (k : Nat) (a0_0 : Int) (a0_1 : Int) (a0_2 : Int) (a0_3 : Int) (l0_4 : List Int) (l0_5 : List (S59)) : Option (Bool) := (headgateref18_in.f k (([a0_0, a0_2, a0_3] : List Int))).bind fun t193 => (if t193 = true then (if a0_1 < 0 then (headgateref18_MayReply.j0 k true a0_0 a0_1 a0_2 a0_3 l0_4 l0_5) else (if a0_1 > 255 then (headgateref18_MayReply.j0 k true a0_0 a0_1 a0_2 a0_3 l0_4 l0_5) else (if (l0_4.length : Int) > 64 then (headgateref18_MayReply.j0 k true a0_0 a0_1 a0_2 a0_3 l0_4 l0_5) else ((headgateref18_in.f k l0_4).bind fun t194 => (if t194 = true then (headgateref18_MayReply.j0 k (decide ((l0_5.length : Int) > 2048)) a0_0 a0_1 a0_2 a0_3 l0_4 l0_5) else (headgateref18_MayReply.j0 k true a0_0 a0_1 a0_2 a0_3 l0_4 l0_5)))))) else (headgateref18_MayReply.j0 k true a0_0 a0_1 a0_2 a0_3 l0_4 l0_5))
theorem headgateref18_MayReply.mono_l : ∀ k, (∀ y0 y1 y2 y3 y4 y5 y6, LeO (headgateref18_MayReply.j0 k y0 y1 y2 y3 y4 y5 y6) (headgateref18_MayReply.j0 (k + 1) y0 y1 y2 y3 y4 y5 y6)) ∧ (∀ y0 y1 y2 y3 y4 y5 y6, LeO (headgateref18_MayReply.l0 k y0 y1 y2 y3 y4 y5 y6) (headgateref18_MayReply.l0 (k + 1) y0 y1 y2 y3 y4 y5 y6))
  | 0 => ⟨fun _ _ _ _ _ _ _ r h => by simp [headgateref18_MayReply.j0] at h, fun _ _ _ _ _ _ _ r h => by simp [headgateref18_MayReply.l0] at h⟩
  | k + 1 => by
    obtain ⟨ih0, ih1⟩ := headgateref18_MayReply.mono_l k
    refine ⟨?_, ?_⟩
    · intro y0 y1 y2 y3 y4 y5 y6
      unfold headgateref18_MayReply.j0
      repeat' first
      | (with_reducible exact ih0 _ _ _ _ _ _ _)
      | (with_reducible exact ih1 _ _ _ _ _ _ _)
      | (with_reducible exact headgateref18_in.mono _ _)
      | (with_reducible exact LeO.refl _)
      | (with_reducible exact LeO.none _)
      | (with_reducible refine LeO.ite ?_ ?_)
      | (with_reducible refine LeO.bind ?_ (fun _ => ?_))
      | exact ih0 _ _ _ _ _ _ _
      | exact ih1 _ _ _ _ _ _ _
      | exact headgateref18_in.mono _ _
      | exact LeO.none _
      | refine LeO.ite ?_ ?_
      | refine LeO.bind ?_ (fun _ => ?_)
    · intro y0 y1 y2 y3 y4 y5 y6
      unfold headgateref18_MayReply.l0
      repeat' first
      | (with_reducible exact ih0 _ _ _ _ _ _ _)
      | (with_reducible exact ih1 _ _ _ _ _ _ _)
      | (with_reducible exact headgateref18_in.mono _ _)
      | (with_reducible exact LeO.refl _)
      | (with_reducible exact LeO.none _)
      | (with_reducible refine LeO.ite ?_ ?_)
      | (with_reducible refine LeO.bind ?_ (fun _ => ?_))
      | exact ih0 _ _ _ _ _ _ _
      | exact ih1 _ _ _ _ _ _ _
      | exact headgateref18_in.mono _ _
      | exact LeO.none _
      | refine LeO.ite ?_ ?_
      | refine LeO.bind ?_ (fun _ => ?_)
theorem headgateref18_MayReply.mono : ∀ a0 a1 a2 a3 a4 a5 k, LeO (headgateref18_MayReply.f k a0 a1 a2 a3 a4 a5) (headgateref18_MayReply.f (k + 1) a0 a1 a2 a3 a4 a5) := by
  intro a0 a1 a2 a3 a4 a5 k
  obtain ⟨ih0, ih1⟩ := headgateref18_MayReply.mono_l k
  unfold headgateref18_MayReply.f
  repeat' first
      | (with_reducible exact ih0 _ _ _ _ _ _ _)
      | (with_reducible exact ih1 _ _ _ _ _ _ _)
      | (with_reducible exact headgateref18_in.mono _ _)
      | (with_reducible exact LeO.refl _)
      | (with_reducible exact LeO.none _)
      | (with_reducible refine LeO.ite ?_ ?_)
      | (with_reducible refine LeO.bind ?_ (fun _ => ?_))
      | exact ih0 _ _ _ _ _ _ _
      | exact ih1 _ _ _ _ _ _ _
      | exact headgateref18_in.mono _ _
      | exact LeO.none _
      | refine LeO.ite ?_ ?_
      | refine LeO.bind ?_ (fun _ => ?_)
set_option maxHeartbeats 8000000 in
set_option maxRecDepth 100000 in
theorem headgateref18_MayReply.calls (k : Nat) (a0_0 : Int) (a0_1 : Int) (a0_2 : Int) (a0_3 : Int) (A0_4 : Option Addr) (c0_4 : Nat) (l0_4 : List Int) (A0_5 : Option Addr) (c0_5 : Nat) (l0_5 : List (S59)) (r : Bool) (w : World) (hr0_4 : Kd.C (Kd.int .i64) w A0_4 l0_4.length l0_4) (hc0_4 : l0_4.length ≤ c0_4) (hr0_5 : Kd.C k59 w A0_5 l0_5.length l0_5) (hc0_5 : l0_5.length ≤ c0_5) (h : headgateref18_MayReply.f k a0_0 a0_1 a0_2 a0_3 l0_4 l0_5 = some r) :
    Calls Try.prog 28 #[.agg #[.int .i64 a0_0, .int .i64 a0_1, .int .i64 a0_2, .int .i64 a0_3, .slice A0_4 l0_4.length c0_4, .slice A0_5 l0_5.length c0_5]] w fun e w' => e = .returned (.bool r) ∧ Below w.heap.size w w' := by
 have hu26 := Try.underlying26
 have hu57 := Try.underlying57
 have HR0_4 := Aside0.mk hr0_4
 have HC0_4 := Aside0.mk hc0_4
 clear hr0_4 hc0_4
 have HR0_5 := Aside0.mk hr0_5
 have HC0_5 := Aside0.mk hc0_5
 clear hr0_5 hc0_5
 have HB := Aside0.mk (Below.refl w.heap.size w)
 have H : ((headgateref18_in.f k (([a0_0, a0_2, a0_3] : List Int))).bind fun t193 => (if t193 = true then (if a0_1 < 0 then (headgateref18_MayReply.j0 k true a0_0 a0_1 a0_2 a0_3 l0_4 l0_5) else (if a0_1 > 255 then (headgateref18_MayReply.j0 k true a0_0 a0_1 a0_2 a0_3 l0_4 l0_5) else (if (l0_4.length : Int) > 64 then (headgateref18_MayReply.j0 k true a0_0 a0_1 a0_2 a0_3 l0_4 l0_5) else ((headgateref18_in.f k l0_4).bind fun t194 => (if t194 = true then (headgateref18_MayReply.j0 k (decide ((l0_5.length : Int) > 2048)) a0_0 a0_1 a0_2 a0_3 l0_4 l0_5) else (headgateref18_MayReply.j0 k true a0_0 a0_1 a0_2 a0_3 l0_4 l0_5)))))) else (headgateref18_MayReply.j0 k true a0_0 a0_1 a0_2 a0_3 l0_4 l0_5))) = some r := h
 clear h
 have HC2 := Aside0.mk H
 clear H
 go_enter Try.func28, Try.ntmps28
 go_upto_region 1 with (first | ((with_reducible refine gate_dst (N := 1) rfl ?_); (try (refine gate_guard (by rfl) ?_; dsimp only)); refine box_event ?hg (N := 1) ?hd (cs := #[.int .i64 a0_0, .int .i64 a0_1, .int .i64 a0_2, .int .i64 a0_3, .slice A0_4 l0_4.length c0_4, .slice A0_5 l0_5.length c0_5]) (t := 26) ?hr ?_; (case hd => rfl); (case hg => rfl); (case hr => first | (go_simp; done) | (go_simp; rfl)); intro gb189 hg w3 hbox hb; have BK189 := Aside0.mk (hbox); have GW189 := Aside0.mk (Zz.ge hg HB.out); have GE189 := Aside0.mk (Zz.ge hg HB.out); replace HB := Aside0.mk (below_step (Zz.i HB.out) hb); clear hb hbox hg))
 (try simp only [Act.put, List.setIfInBounds_toArray, List.set_cons_zero, List.set_cons_succ])
 go_cut [40] (fun v40 wc => ∃ (kq : Nat) (x40_1 : Bool), v40 = .bool x40_1 ∧ Aside0 (headgateref18_MayReply.j0 kq x40_1 a0_0 a0_1 a0_2 a0_3 l0_4 l0_5 = some r) ∧ Aside0 (kq ≤ k) ∧ Aside0 (wc.heap[gb189]? = some (.cells #[.int .i64 a0_0, .int .i64 a0_1, .int .i64 a0_2, .int .i64 a0_3, (.slice A0_4 l0_4.length c0_4), (.slice A0_5 l0_5.length c0_5)] 26 (0, 0))) ∧ Aside0 (Below w.heap.size w wc))
 case first =>
  have H := HC2.out
  clear HC2
  obtain ⟨y190, hy190⟩ : ∃ y_ : List Int, y_ = (([a0_0, a0_2, a0_3] : List Int)) := ⟨_, rfl⟩
  replace H : ((headgateref18_in.f k y190).bind fun t193 => (if t193 = true then (if a0_1 < 0 then (headgateref18_MayReply.j0 k true a0_0 a0_1 a0_2 a0_3 l0_4 l0_5) else (if a0_1 > 255 then (headgateref18_MayReply.j0 k true a0_0 a0_1 a0_2 a0_3 l0_4 l0_5) else (if (l0_4.length : Int) > 64 then (headgateref18_MayReply.j0 k true a0_0 a0_1 a0_2 a0_3 l0_4 l0_5) else ((headgateref18_in.f k l0_4).bind fun t194 => (if t194 = true then (headgateref18_MayReply.j0 k (decide ((l0_5.length : Int) > 2048)) a0_0 a0_1 a0_2 a0_3 l0_4 l0_5) else (headgateref18_MayReply.j0 k true a0_0 a0_1 a0_2 a0_3 l0_4 l0_5)))))) else (headgateref18_MayReply.j0 k true a0_0 a0_1 a0_2 a0_3 l0_4 l0_5))) = some r := by first | (rw [hy190]; with_reducible exact H) | (have H2_ := (Option.bind_some _ _).symm.trans H; rw [hy190]; with_reducible exact H2_) | (have H2_ := (Option.bind_some _ _).symm.trans H; with_reducible exact H2_) | with_reducible exact H | (rw [hy190]; exact H) | exact H
  have Ny190 := Aside0.mk hy190
  clear hy190
  replace H := Option.bind_eq_some_iff.mp H
  obtain ⟨t193, A40, H⟩ := H
  replace H : (if t193 = true then (if a0_1 < 0 then (headgateref18_MayReply.j0 k true a0_0 a0_1 a0_2 a0_3 l0_4 l0_5) else (if a0_1 > 255 then (headgateref18_MayReply.j0 k true a0_0 a0_1 a0_2 a0_3 l0_4 l0_5) else (if (l0_4.length : Int) > 64 then (headgateref18_MayReply.j0 k true a0_0 a0_1 a0_2 a0_3 l0_4 l0_5) else ((headgateref18_in.f k l0_4).bind fun t194 => (if t194 = true then (headgateref18_MayReply.j0 k (decide ((l0_5.length : Int) > 2048)) a0_0 a0_1 a0_2 a0_3 l0_4 l0_5) else (headgateref18_MayReply.j0 k true a0_0 a0_1 a0_2 a0_3 l0_4 l0_5)))))) else (headgateref18_MayReply.j0 k true a0_0 a0_1 a0_2 a0_3 l0_4 l0_5)) = some r := H
  have A4 := Aside0.mk A40
  clear A40
  by_cases c5 : t193 = true
  ·subst c5
   have H1 : (if a0_1 < 0 then (headgateref18_MayReply.j0 k true a0_0 a0_1 a0_2 a0_3 l0_4 l0_5) else (if a0_1 > 255 then (headgateref18_MayReply.j0 k true a0_0 a0_1 a0_2 a0_3 l0_4 l0_5) else (if (l0_4.length : Int) > 64 then (headgateref18_MayReply.j0 k true a0_0 a0_1 a0_2 a0_3 l0_4 l0_5) else ((headgateref18_in.f k l0_4).bind fun t194 => (if t194 = true then (headgateref18_MayReply.j0 k (decide ((l0_5.length : Int) > 2048)) a0_0 a0_1 a0_2 a0_3 l0_4 l0_5) else (headgateref18_MayReply.j0 k true a0_0 a0_1 a0_2 a0_3 l0_4 l0_5)))))) = some r := by rw [if_pos rfl] at H; exact H
   clear H
   have H := H1
   clear H1
   by_cases c6 : a0_1 < 0
   ·rw [if_pos c6] at H
    have c6b0 : decide (a0_1 < 0) = true := decide_eq_true c6
    clear c6
    (first | rw [c6b0] | rw [c6b9] | (simp only [i64_w, i32_w]; rw [c6b0]) | skip)
    have H' := Aside0.mk H
    clear H
    have hcz7 := Zz.c6 BK189.out
    have hfz7 := blk_frozen BK189.out
    go_wp2_with (first | ((with_reducible refine gate_dst (N := 10) rfl ?_); (try (refine gate_guard (by rfl) ?_; dsimp only)); refine Kd.R_lit (Kd.int .i64) _ 3 ?hg (N := 10) ?hd (xs := ([a0_0, a0_2, a0_3] : List Int)) (inner := [.int .i64 a0_0, .int .i64 a0_2, .int .i64 a0_3]) (ok := fun _ => True) (okp := fun _ => True) ?hr ?hp (fun _ hk => hk) trivial (Below.refl _ _) (Nat.le_refl _) (by simp) ?_; (case hd => rfl); (case hg => rfl); (case hr => first | (go_simp; done) | (go_simp; rfl)); (case hp => exact (Reps.one (show Kd.M (Kd.int .i64) _ _ _ a0_0 [.int .i64 a0_0] from rfl) (Reps.one (show Kd.M (Kd.int .i64) _ _ _ a0_2 [.int .i64 a0_2] from rfl) (Reps.one (show Kd.M (Kd.int .i64) _ _ _ a0_3 [.int .i64 a0_3] from rfl) (Reps.none _ _))))); intro v191 w8 ho9 hb hg_ hnew_; clear hg_ hnew_; (first | rw [← Ny190.out] at ho9 | (simp only [Int.reduceToNat] at ho9; rw [← Ny190.out] at ho9)); have HO192 := Aside0.mk (Kd.R_lower ho9 (below_size (Zz.i HB.out))); replace BK189 := Aside0.mk (Zz.bb BK189.out hb); replace HB := Aside0.mk (below_step (Zz.i HB.out) hb); clear hb ho9; obtain ⟨Ao10, co10, eo10⟩ := Kd.R_slice HO192.out; subst eo10) | ((with_reducible refine gate_callee (f := 58) rfl ?_); refine goesL_ (some 11) rfl rfl Try.func58 (by kernel_rfl) rfl #[.slice Ao10 y190.length co10] rfl Zz.g ?_; (with_reducible refine (headgateref18_in.calls k _ _ y190 true _ ?side1 ?side2 A4.out).mono ?_); (case side1 => repeat (first | exact (Kd.R_reads' HO192.out).2.2 | (with_reducible refine Kd.C_alloc ?_ _) | (with_reducible refine Kd.C_drewN ?_ _) | (with_reducible refine Kd.C_drew ?_))); (case side2 => exact (Kd.R_reads' HO192.out).2.1); rintro e w' ⟨rfl, ⟨nd, rfl⟩⟩; refine ⟨_, rfl, ?_⟩; have hcz11 := Zz.c6 BK189.out; have hfz11 := blk_frozen BK189.out))
    go_meet
    case rel => exact ⟨_, (true), Zz.q, H', ⟨by first | omega | exact Nat.le_refl _⟩, ⟨Zz.p BK189.out⟩, ⟨by repeat (first | (with_reducible first | exact HB.out | apply below_alloc | apply pw_below_drewN | apply below_drew1 | refine below_set ?_ GE189.out) | exact HB.out)⟩⟩
   rw [if_neg c6] at H
   have c6b0 : decide (a0_1 < 0) = false := decide_eq_false c6
   clear c6
   (first | rw [c6b0] | rw [c6b9] | (simp only [i64_w, i32_w]; rw [c6b0]) | skip)
   by_cases c12 : a0_1 > 255
   ·rw [if_pos c12] at H
    have c12b0 : decide (255 < a0_1) = true := decide_eq_true c12
    clear c12
    have H' := Aside0.mk H
    clear H
    have hcz13 := Zz.c6 BK189.out
    have hfz13 := blk_frozen BK189.out
    go_wp2_with (first | ((with_reducible refine gate_dst (N := 10) rfl ?_); (try (refine gate_guard (by rfl) ?_; dsimp only)); refine Kd.R_lit (Kd.int .i64) _ 3 ?hg (N := 10) ?hd (xs := ([a0_0, a0_2, a0_3] : List Int)) (inner := [.int .i64 a0_0, .int .i64 a0_2, .int .i64 a0_3]) (ok := fun _ => True) (okp := fun _ => True) ?hr ?hp (fun _ hk => hk) trivial (Below.refl _ _) (Nat.le_refl _) (by simp) ?_; (case hd => rfl); (case hg => rfl); (case hr => first | (go_simp; done) | (go_simp; rfl)); (case hp => exact (Reps.one (show Kd.M (Kd.int .i64) _ _ _ a0_0 [.int .i64 a0_0] from rfl) (Reps.one (show Kd.M (Kd.int .i64) _ _ _ a0_2 [.int .i64 a0_2] from rfl) (Reps.one (show Kd.M (Kd.int .i64) _ _ _ a0_3 [.int .i64 a0_3] from rfl) (Reps.none _ _))))); intro v191 w14 ho15 hb hg_ hnew_; clear hg_ hnew_; (first | rw [← Ny190.out] at ho15 | (simp only [Int.reduceToNat] at ho15; rw [← Ny190.out] at ho15)); have HO192 := Aside0.mk (Kd.R_lower ho15 (below_size (Zz.i HB.out))); replace BK189 := Aside0.mk (Zz.bb BK189.out hb); replace HB := Aside0.mk (below_step (Zz.i HB.out) hb); clear hb ho15; obtain ⟨Ao16, co16, eo16⟩ := Kd.R_slice HO192.out; subst eo16) | ((with_reducible refine gate_callee (f := 58) rfl ?_); refine goesL_ (some 11) rfl rfl Try.func58 (by kernel_rfl) rfl #[.slice Ao16 y190.length co16] rfl Zz.g ?_; (with_reducible refine (headgateref18_in.calls k _ _ y190 true _ ?side1 ?side2 A4.out).mono ?_); (case side1 => repeat (first | exact (Kd.R_reads' HO192.out).2.2 | (with_reducible refine Kd.C_alloc ?_ _) | (with_reducible refine Kd.C_drewN ?_ _) | (with_reducible refine Kd.C_drew ?_))); (case side2 => exact (Kd.R_reads' HO192.out).2.1); rintro e w' ⟨rfl, ⟨nd, rfl⟩⟩; refine ⟨_, rfl, ?_⟩; have hcz17 := Zz.c6 BK189.out; have hfz17 := blk_frozen BK189.out))
    go_meet
    case rel => exact ⟨_, (true), Zz.q, H', ⟨by first | omega | exact Nat.le_refl _⟩, ⟨Zz.p BK189.out⟩, ⟨by repeat (first | (with_reducible first | exact HB.out | apply below_alloc | apply pw_below_drewN | apply below_drew1 | refine below_set ?_ GE189.out) | exact HB.out)⟩⟩
   rw [if_neg c12] at H
   have c12b0 : decide (255 < a0_1) = false := decide_eq_false c12
   clear c12
   by_cases c18 : (l0_4.length : Int) > 64
   ·rw [if_pos c18] at H
    have c18b0 : decide (64 < (l0_4.length : Int)) = true := decide_eq_true c18
    have c18b1 : decide (64 < l0_4.length) = true := decide_eq_true (by omega)
    clear c18
    have H' := Aside0.mk H
    clear H
    have hcz19 := Zz.c6 BK189.out
    have hfz19 := blk_frozen BK189.out
    go_wp2_with (first | ((with_reducible refine gate_dst (N := 10) rfl ?_); (try (refine gate_guard (by rfl) ?_; dsimp only)); refine Kd.R_lit (Kd.int .i64) _ 3 ?hg (N := 10) ?hd (xs := ([a0_0, a0_2, a0_3] : List Int)) (inner := [.int .i64 a0_0, .int .i64 a0_2, .int .i64 a0_3]) (ok := fun _ => True) (okp := fun _ => True) ?hr ?hp (fun _ hk => hk) trivial (Below.refl _ _) (Nat.le_refl _) (by simp) ?_; (case hd => rfl); (case hg => rfl); (case hr => first | (go_simp; done) | (go_simp; rfl)); (case hp => exact (Reps.one (show Kd.M (Kd.int .i64) _ _ _ a0_0 [.int .i64 a0_0] from rfl) (Reps.one (show Kd.M (Kd.int .i64) _ _ _ a0_2 [.int .i64 a0_2] from rfl) (Reps.one (show Kd.M (Kd.int .i64) _ _ _ a0_3 [.int .i64 a0_3] from rfl) (Reps.none _ _))))); intro v191 w20 ho21 hb hg_ hnew_; clear hg_ hnew_; (first | rw [← Ny190.out] at ho21 | (simp only [Int.reduceToNat] at ho21; rw [← Ny190.out] at ho21)); have HO192 := Aside0.mk (Kd.R_lower ho21 (below_size (Zz.i HB.out))); replace BK189 := Aside0.mk (Zz.bb BK189.out hb); replace HB := Aside0.mk (below_step (Zz.i HB.out) hb); clear hb ho21; obtain ⟨Ao22, co22, eo22⟩ := Kd.R_slice HO192.out; subst eo22) | ((with_reducible refine gate_callee (f := 58) rfl ?_); refine goesL_ (some 11) rfl rfl Try.func58 (by kernel_rfl) rfl #[.slice Ao22 y190.length co22] rfl Zz.g ?_; (with_reducible refine (headgateref18_in.calls k _ _ y190 true _ ?side1 ?side2 A4.out).mono ?_); (case side1 => repeat (first | exact (Kd.R_reads' HO192.out).2.2 | (with_reducible refine Kd.C_alloc ?_ _) | (with_reducible refine Kd.C_drewN ?_ _) | (with_reducible refine Kd.C_drew ?_))); (case side2 => exact (Kd.R_reads' HO192.out).2.1); rintro e w' ⟨rfl, ⟨nd, rfl⟩⟩; refine ⟨_, rfl, ?_⟩; have hcz23 := Zz.c6 BK189.out; have hfz23 := blk_frozen BK189.out))
    go_meet
    case rel => exact ⟨_, (true), Zz.q, H', ⟨by first | omega | exact Nat.le_refl _⟩, ⟨Zz.p BK189.out⟩, ⟨by repeat (first | (with_reducible first | exact HB.out | apply below_alloc | apply pw_below_drewN | apply below_drew1 | refine below_set ?_ GE189.out) | exact HB.out)⟩⟩
   rw [if_neg c18] at H
   have c18b0 : decide (64 < (l0_4.length : Int)) = false := decide_eq_false c18
   have c18b1 : decide (64 < l0_4.length) = false := decide_eq_false (by omega)
   clear c18
   replace H := Option.bind_eq_some_iff.mp H
   obtain ⟨t194, A240, H⟩ := H
   replace H : (if t194 = true then (headgateref18_MayReply.j0 k (decide ((l0_5.length : Int) > 2048)) a0_0 a0_1 a0_2 a0_3 l0_4 l0_5) else (headgateref18_MayReply.j0 k true a0_0 a0_1 a0_2 a0_3 l0_4 l0_5)) = some r := H
   have A24 := Aside0.mk A240
   clear A240
   by_cases c25 : t194 = true
   ·subst c25
    have H1 : (headgateref18_MayReply.j0 k (decide ((l0_5.length : Int) > 2048)) a0_0 a0_1 a0_2 a0_3 l0_4 l0_5) = some r := by rw [if_pos rfl] at H; exact H
    clear H
    have H := H1
    clear H1
    have H' := Aside0.mk H
    clear H
    have hcz26 := Zz.c6 BK189.out
    have hfz26 := blk_frozen BK189.out
    go_wp2_with (first | ((with_reducible refine gate_dst (N := 10) rfl ?_); (try (refine gate_guard (by rfl) ?_; dsimp only)); refine Kd.R_lit (Kd.int .i64) _ 3 ?hg (N := 10) ?hd (xs := ([a0_0, a0_2, a0_3] : List Int)) (inner := [.int .i64 a0_0, .int .i64 a0_2, .int .i64 a0_3]) (ok := fun _ => True) (okp := fun _ => True) ?hr ?hp (fun _ hk => hk) trivial (Below.refl _ _) (Nat.le_refl _) (by simp) ?_; (case hd => rfl); (case hg => rfl); (case hr => first | (go_simp; done) | (go_simp; rfl)); (case hp => exact (Reps.one (show Kd.M (Kd.int .i64) _ _ _ a0_0 [.int .i64 a0_0] from rfl) (Reps.one (show Kd.M (Kd.int .i64) _ _ _ a0_2 [.int .i64 a0_2] from rfl) (Reps.one (show Kd.M (Kd.int .i64) _ _ _ a0_3 [.int .i64 a0_3] from rfl) (Reps.none _ _))))); intro v191 w27 ho28 hb hg_ hnew_; clear hg_ hnew_; (first | rw [← Ny190.out] at ho28 | (simp only [Int.reduceToNat] at ho28; rw [← Ny190.out] at ho28)); have HO192 := Aside0.mk (Kd.R_lower ho28 (below_size (Zz.i HB.out))); replace BK189 := Aside0.mk (Zz.bb BK189.out hb); replace HB := Aside0.mk (below_step (Zz.i HB.out) hb); clear hb ho28; obtain ⟨Ao29, co29, eo29⟩ := Kd.R_slice HO192.out; subst eo29) | ((with_reducible refine gate_callee (f := 58) rfl ?_); refine goesL_ (some 11) rfl rfl Try.func58 (by kernel_rfl) rfl #[.slice Ao29 y190.length co29] rfl Zz.g ?_; (with_reducible refine (headgateref18_in.calls k _ _ y190 true _ ?side1 ?side2 A4.out).mono ?_); (case side1 => repeat (first | exact (Kd.R_reads' HO192.out).2.2 | (with_reducible refine Kd.C_alloc ?_ _) | (with_reducible refine Kd.C_drewN ?_ _) | (with_reducible refine Kd.C_drew ?_))); (case side2 => exact (Kd.R_reads' HO192.out).2.1); rintro e w' ⟨rfl, ⟨nd, rfl⟩⟩; refine ⟨_, rfl, ?_⟩; have hcz30 := Zz.c6 BK189.out; have hfz30 := blk_frozen BK189.out) | (go_at_call 58; (with_reducible refine (headgateref18_in.calls k _ _ l0_4 true _ ?side1 ?side2 A24.out).mono ?_); (case side1 => exact Zz.k (Kd.C_below HR0_4.out (Zz.i HB.out))); (case side2 => exact HC0_4.out); rintro e w' ⟨rfl, ⟨nd, rfl⟩⟩))
    go_meet
    case rel => exact ⟨_, (decide ((l0_5.length : Int) > 2048)), Zz.q, H', ⟨by first | omega | exact Nat.le_refl _⟩, ⟨Zz.p BK189.out⟩, ⟨by repeat (first | (with_reducible first | exact HB.out | apply below_alloc | apply pw_below_drewN | apply below_drew1 | refine below_set ?_ GE189.out) | exact HB.out)⟩⟩
   replace c25 := Bool.eq_false_iff.mpr c25
   subst c25
   have H1 : (headgateref18_MayReply.j0 k true a0_0 a0_1 a0_2 a0_3 l0_4 l0_5) = some r := by rw [if_neg (show ¬ (false = true) by decide)] at H; exact H
   clear H
   have H := H1
   clear H1
   have H' := Aside0.mk H
   clear H
   have hcz31 := Zz.c6 BK189.out
   have hfz31 := blk_frozen BK189.out
   go_wp2_with (first | ((with_reducible refine gate_dst (N := 10) rfl ?_); (try (refine gate_guard (by rfl) ?_; dsimp only)); refine Kd.R_lit (Kd.int .i64) _ 3 ?hg (N := 10) ?hd (xs := ([a0_0, a0_2, a0_3] : List Int)) (inner := [.int .i64 a0_0, .int .i64 a0_2, .int .i64 a0_3]) (ok := fun _ => True) (okp := fun _ => True) ?hr ?hp (fun _ hk => hk) trivial (Below.refl _ _) (Nat.le_refl _) (by simp) ?_; (case hd => rfl); (case hg => rfl); (case hr => first | (go_simp; done) | (go_simp; rfl)); (case hp => exact (Reps.one (show Kd.M (Kd.int .i64) _ _ _ a0_0 [.int .i64 a0_0] from rfl) (Reps.one (show Kd.M (Kd.int .i64) _ _ _ a0_2 [.int .i64 a0_2] from rfl) (Reps.one (show Kd.M (Kd.int .i64) _ _ _ a0_3 [.int .i64 a0_3] from rfl) (Reps.none _ _))))); intro v191 w32 ho33 hb hg_ hnew_; clear hg_ hnew_; (first | rw [← Ny190.out] at ho33 | (simp only [Int.reduceToNat] at ho33; rw [← Ny190.out] at ho33)); have HO192 := Aside0.mk (Kd.R_lower ho33 (below_size (Zz.i HB.out))); replace BK189 := Aside0.mk (Zz.bb BK189.out hb); replace HB := Aside0.mk (below_step (Zz.i HB.out) hb); clear hb ho33; obtain ⟨Ao34, co34, eo34⟩ := Kd.R_slice HO192.out; subst eo34) | ((with_reducible refine gate_callee (f := 58) rfl ?_); refine goesL_ (some 11) rfl rfl Try.func58 (by kernel_rfl) rfl #[.slice Ao34 y190.length co34] rfl Zz.g ?_; (with_reducible refine (headgateref18_in.calls k _ _ y190 true _ ?side1 ?side2 A4.out).mono ?_); (case side1 => repeat (first | exact (Kd.R_reads' HO192.out).2.2 | (with_reducible refine Kd.C_alloc ?_ _) | (with_reducible refine Kd.C_drewN ?_ _) | (with_reducible refine Kd.C_drew ?_))); (case side2 => exact (Kd.R_reads' HO192.out).2.1); rintro e w' ⟨rfl, ⟨nd, rfl⟩⟩; refine ⟨_, rfl, ?_⟩; have hcz35 := Zz.c6 BK189.out; have hfz35 := blk_frozen BK189.out) | (go_at_call 58; (with_reducible refine (headgateref18_in.calls k _ _ l0_4 false _ ?side1 ?side2 A24.out).mono ?_); (case side1 => exact Zz.k (Kd.C_below HR0_4.out (Zz.i HB.out))); (case side2 => exact HC0_4.out); rintro e w' ⟨rfl, ⟨nd, rfl⟩⟩))
   go_meet
   case rel => exact ⟨_, (true), Zz.q, H', ⟨by first | omega | exact Nat.le_refl _⟩, ⟨Zz.p BK189.out⟩, ⟨by repeat (first | (with_reducible first | exact HB.out | apply below_alloc | apply pw_below_drewN | apply below_drew1 | refine below_set ?_ GE189.out) | exact HB.out)⟩⟩
  replace c5 := Bool.eq_false_iff.mpr c5
  subst c5
  have H1 : (headgateref18_MayReply.j0 k true a0_0 a0_1 a0_2 a0_3 l0_4 l0_5) = some r := by rw [if_neg (show ¬ (false = true) by decide)] at H; exact H
  clear H
  have H := H1
  clear H1
  have H' := Aside0.mk H
  clear H
  have hcz36 := Zz.c6 BK189.out
  have hfz36 := blk_frozen BK189.out
  go_wp2_with (first | ((with_reducible refine gate_dst (N := 10) rfl ?_); (try (refine gate_guard (by rfl) ?_; dsimp only)); refine Kd.R_lit (Kd.int .i64) _ 3 ?hg (N := 10) ?hd (xs := ([a0_0, a0_2, a0_3] : List Int)) (inner := [.int .i64 a0_0, .int .i64 a0_2, .int .i64 a0_3]) (ok := fun _ => True) (okp := fun _ => True) ?hr ?hp (fun _ hk => hk) trivial (Below.refl _ _) (Nat.le_refl _) (by simp) ?_; (case hd => rfl); (case hg => rfl); (case hr => first | (go_simp; done) | (go_simp; rfl)); (case hp => exact (Reps.one (show Kd.M (Kd.int .i64) _ _ _ a0_0 [.int .i64 a0_0] from rfl) (Reps.one (show Kd.M (Kd.int .i64) _ _ _ a0_2 [.int .i64 a0_2] from rfl) (Reps.one (show Kd.M (Kd.int .i64) _ _ _ a0_3 [.int .i64 a0_3] from rfl) (Reps.none _ _))))); intro v191 w37 ho38 hb hg_ hnew_; clear hg_ hnew_; (first | rw [← Ny190.out] at ho38 | (simp only [Int.reduceToNat] at ho38; rw [← Ny190.out] at ho38)); have HO192 := Aside0.mk (Kd.R_lower ho38 (below_size (Zz.i HB.out))); replace BK189 := Aside0.mk (Zz.bb BK189.out hb); replace HB := Aside0.mk (below_step (Zz.i HB.out) hb); clear hb ho38; obtain ⟨Ao39, co39, eo39⟩ := Kd.R_slice HO192.out; subst eo39) | ((with_reducible refine gate_callee (f := 58) rfl ?_); refine goesL_ (some 11) rfl rfl Try.func58 (by kernel_rfl) rfl #[.slice Ao39 y190.length co39] rfl Zz.g ?_; (with_reducible refine (headgateref18_in.calls k _ _ y190 false _ ?side1 ?side2 A4.out).mono ?_); (case side1 => repeat (first | exact (Kd.R_reads' HO192.out).2.2 | (with_reducible refine Kd.C_alloc ?_ _) | (with_reducible refine Kd.C_drewN ?_ _) | (with_reducible refine Kd.C_drew ?_))); (case side2 => exact (Kd.R_reads' HO192.out).2.1); rintro e w' ⟨rfl, ⟨nd, rfl⟩⟩; refine ⟨_, rfl, ?_⟩))
  go_meet
  case rel => exact ⟨_, (true), Zz.q, H', ⟨by first | omega | exact Nat.le_refl _⟩, ⟨Zz.p BK189.out⟩, ⟨by repeat (first | (with_reducible first | exact HB.out | apply below_alloc | apply pw_below_drewN | apply below_drew1 | refine below_set ?_ GE189.out) | exact HB.out)⟩⟩
 clear HC2
 (try clear c1);(try clear c2);(try clear p2);(try clear c5);(try clear c6);(try clear c6b0);(try clear c12);(try clear c12b0);(try clear c18);(try clear c18b0);(try clear c18b1);(try clear c25);(try clear c28);(try clear hcz11);(try clear hcz13);(try clear hcz17);(try clear hcz19);(try clear hcz23);(try clear hcz26);(try clear hcz30);(try clear hcz31);(try clear hcz35);(try clear hcz36);(try clear hcz7);(try clear hfz11);(try clear hfz13);(try clear hfz17);(try clear hfz19);(try clear hfz23);(try clear hfz26);(try clear hfz30);(try clear hfz31);(try clear hfz35);(try clear hfz36);(try clear hfz7)
 obtain ⟨kq, x40_1, rfl, HA, HJ1, BK189, HB⟩ := hcut
 cases kq with
 | zero => exact absurd HA.out (by simp [headgateref18_MayReply.j0])
 | succ kj1 =>
  have H := HA.out
  clear HA
  simp only [headgateref18_MayReply.j0] at H
  by_cases c40 : x40_1 = true
  ·subst c40
   have H1 : (some false) = some r := by rw [if_pos rfl] at H; exact H
   clear H
   have H := H1
   clear H1
   obtain rfl := Option.some.inj H
   go_wp2
   go_ret
   exact ⟨by first | rfl | (simp [errW_none, errW_some] <;> rfl) | (simp [*, errW_none, errW_some] <;> rfl), by repeat (first | (with_reducible first | exact HB.out | apply below_alloc | apply pw_below_drewN | apply below_drew1 | refine below_set ?_ GE189.out) | exact HB.out)⟩
  replace c40 := Bool.eq_false_iff.mpr c40
  subst c40
  have H1 : (headgateref18_MayReply.l0 kj1 0 a0_0 a0_1 a0_2 a0_3 l0_4 l0_5) = some r := by rw [if_neg (show ¬ (false = true) by decide)] at H; exact H
  clear H
  have H := H1
  clear H1
  have H' := Aside0.mk H
  clear H
  go_wp2
  go_loopg [3] kj1 (fun kq v3 w' => ∃ (x3_2 : Int), v3 = .int .i64 x3_2 ∧ Aside0 (headgateref18_MayReply.l0 kq x3_2 a0_0 a0_1 a0_2 a0_3 l0_4 l0_5 = some r) ∧ Aside0 (kq ≤ kj1) ∧ Aside0 (w'.heap[gb189]? = some (.cells #[.int .i64 a0_0, .int .i64 a0_1, .int .i64 a0_2, .int .i64 a0_3, (.slice A0_4 l0_4.length c0_4), (.slice A0_5 l0_5.length c0_5)] 26 (0, 0))) ∧ Aside0 (Below w.heap.size w w'))
  case atStart => exact ⟨(0), Zz.q, H', ⟨Nat.le_refl _⟩, ⟨Zz.p BK189.out⟩, ⟨by repeat (first | (with_reducible first | exact HB.out | apply below_alloc | apply pw_below_drewN | apply below_drew1 | refine below_set ?_ GE189.out) | exact HB.out)⟩⟩
  case round =>
   clear H'
   (try clear c1);(try clear c2);(try clear p2);(try clear c4);(try clear c5);(try clear c6);(try clear c6b0);(try clear c12);(try clear c12b0);(try clear c18);(try clear c18b0);(try clear c18b1);(try clear c25);(try clear c28);(try clear c40);(try clear hcz11);(try clear hcz13);(try clear hcz17);(try clear hcz19);(try clear hcz23);(try clear hcz26);(try clear hcz30);(try clear hcz31);(try clear hcz35);(try clear hcz36);(try clear hcz7);(try clear hfz11);(try clear hfz13);(try clear hfz17);(try clear hfz19);(try clear hfz23);(try clear hfz26);(try clear hfz30);(try clear hfz31);(try clear hfz35);(try clear hfz36);(try clear hfz7)
   obtain ⟨x3_2, rfl, HA, HK2, BK189, HB⟩ := hrel
   cases gk with
   | zero => exact absurd HA.out (by simp [headgateref18_MayReply.l0])
   | succ k2 =>
    have H := HA.out
    clear HA
    simp only [headgateref18_MayReply.l0] at H
    by_cases c41 : x3_2 < (l0_5.length : Int)
    ·rw [if_pos c41] at H
     have c41b0 : decide (x3_2 < (l0_5.length : Int)) = true := decide_eq_true c41
     clear c41
     by_cases c42 : 0 ≤ x3_2
     ·rw [if_pos c42] at H
      have c42b0 : decide (0 ≤ x3_2) = true := decide_eq_true c42
      clear c42
      obtain ⟨y196, hy196⟩ : ∃ y_ : List Int, y_ = (([(rd_T59 l0_5 x3_2).f0] : List Int)) := ⟨_, rfl⟩
      replace H : ((headgateref18_in.f k2 y196).bind fun t199 => (if t199 = true then ((headgateref06_MayRecord.f ((rd_T59 l0_5 x3_2).f1.f0) ((rd_T59 l0_5 x3_2).f1.f1) ((rd_T59 l0_5 x3_2).f1.f2)).bind fun t201 => (if t201 = true then (headgateref18_MayReply.l0 k2 (wrap64 (x3_2 + 1)) a0_0 a0_1 a0_2 a0_3 l0_4 l0_5) else (some false))) else (some false))) = some r := by first | (rw [hy196]; with_reducible exact H) | (have H2_ := (Option.bind_some _ _).symm.trans H; rw [hy196]; with_reducible exact H2_) | (have H2_ := (Option.bind_some _ _).symm.trans H; with_reducible exact H2_) | with_reducible exact H | (rw [hy196]; exact H) | exact H
      have Ny196 := Aside0.mk hy196
      clear hy196
      replace H := Option.bind_eq_some_iff.mp H
      obtain ⟨t199, A430, H⟩ := H
      replace H : (if t199 = true then ((headgateref06_MayRecord.f ((rd_T59 l0_5 x3_2).f1.f0) ((rd_T59 l0_5 x3_2).f1.f1) ((rd_T59 l0_5 x3_2).f1.f2)).bind fun t201 => (if t201 = true then (headgateref18_MayReply.l0 k2 (wrap64 (x3_2 + 1)) a0_0 a0_1 a0_2 a0_3 l0_4 l0_5) else (some false))) else (some false)) = some r := H
      have A43 := Aside0.mk A430
      clear A430
      by_cases c44 : t199 = true
      ·subst c44
       have H1 : ((headgateref06_MayRecord.f ((rd_T59 l0_5 x3_2).f1.f0) ((rd_T59 l0_5 x3_2).f1.f1) ((rd_T59 l0_5 x3_2).f1.f2)).bind fun t201 => (if t201 = true then (headgateref18_MayReply.l0 k2 (wrap64 (x3_2 + 1)) a0_0 a0_1 a0_2 a0_3 l0_4 l0_5) else (some false))) = some r := by rw [if_pos rfl] at H; exact H
       clear H
       have H := H1
       clear H1
       replace H := Option.bind_eq_some_iff.mp H
       obtain ⟨t201, A450, H⟩ := H
       replace H : (if t201 = true then (headgateref18_MayReply.l0 k2 (wrap64 (x3_2 + 1)) a0_0 a0_1 a0_2 a0_3 l0_4 l0_5) else (some false)) = some r := H
       have A45 := Aside0.mk A450
       clear A450
       by_cases c46 : t201 = true
       ·subst c46
        have H1 : (headgateref18_MayReply.l0 k2 (wrap64 (x3_2 + 1)) a0_0 a0_1 a0_2 a0_3 l0_4 l0_5) = some r := by rw [if_pos rfl] at H; exact H
        clear H
        have H := H1
        clear H1
        have H' := Aside0.mk H
        clear H
        have hcz47 := Zz.c6 BK189.out
        have hfz47 := blk_frozen BK189.out
        have p195 : 0 ≤ (x3_2 : Int) := of_decide_eq_true (by first | (with_reducible assumption) | assumption)
        have q195 : x3_2 < (l0_5.length : Int) := of_decide_eq_true (by first | (with_reducible assumption) | assumption)
        obtain ⟨ad195, e195, hx195_0, hx195_1, hx195_2, hx195_3⟩ := at_T59 HR0_5.out x3_2 p195 q195
        cases e195
        replace hx195_0 := (HB.out.cell (World.block_lt_of_cell? w _ hx195_0)).trans hx195_0
        replace hx195_1 := (HB.out.cell (World.block_lt_of_cell? w _ hx195_1)).trans hx195_1
        replace hx195_2 := (HB.out.cell (World.block_lt_of_cell? w _ hx195_2)).trans hx195_2
        replace hx195_3 := (HB.out.cell (World.block_lt_of_cell? w _ hx195_3)).trans hx195_3
        replace p195 := eq_true p195
        replace q195 := eq_true q195
        go_wp2_with (first | ((with_reducible refine gate_dst (N := 54) rfl ?_); (try (refine gate_guard (by rfl) ?_; dsimp only)); refine Kd.R_lit (Kd.int .i64) _ 3 ?hg (N := 54) ?hd (xs := ([(rd_T59 l0_5 x3_2).f0] : List Int)) (inner := [.int .i64 ((rd_T59 l0_5 x3_2).f0)]) (ok := fun _ => True) (okp := fun _ => True) ?hr ?hp (fun _ hk => hk) trivial (Below.refl _ _) (Nat.le_refl _) (by simp) ?_; (case hd => rfl); (case hg => rfl); (case hr => first | (go_simp; done) | (go_simp; rfl)); (case hp => exact (Reps.one (show Kd.M (Kd.int .i64) _ _ _ ((rd_T59 l0_5 x3_2).f0) [.int .i64 ((rd_T59 l0_5 x3_2).f0)] from rfl) (Reps.none _ _))); intro v197 w48 ho49 hb hg_ hnew_; clear hg_ hnew_; (first | rw [← Ny196.out] at ho49 | (simp only [Int.reduceToNat] at ho49; rw [← Ny196.out] at ho49)); have HO198 := Aside0.mk (Kd.R_lower ho49 (below_size (Zz.i HB.out))); replace BK189 := Aside0.mk (Zz.bb BK189.out hb); replace HB := Aside0.mk (below_step (Zz.i HB.out) hb); clear hb ho49; obtain ⟨Ao50, co50, eo50⟩ := Kd.R_slice HO198.out; subst eo50) | ((with_reducible refine gate_callee (f := 58) rfl ?_); refine goesL_ (some 55) rfl rfl Try.func58 (by kernel_rfl) rfl #[.slice Ao50 y196.length co50] rfl Zz.g ?_; (with_reducible refine (headgateref18_in.calls k2 _ _ y196 true _ ?side1 ?side2 A43.out).mono ?_); (case side1 => repeat (first | exact (Kd.R_reads' HO198.out).2.2 | (with_reducible refine Kd.C_alloc ?_ _) | (with_reducible refine Kd.C_drewN ?_ _) | (with_reducible refine Kd.C_drew ?_))); (case side2 => exact (Kd.R_reads' HO198.out).2.1); rintro e w' ⟨rfl, ⟨nd, rfl⟩⟩; refine ⟨_, rfl, ?_⟩; have hcz51 := Zz.c6 BK189.out; have hfz51 := blk_frozen BK189.out; have p200 : 0 ≤ (x3_2 : Int) := of_decide_eq_true (by first | (with_reducible assumption) | assumption); have q200 : x3_2 < (l0_5.length : Int) := of_decide_eq_true (by first | (with_reducible assumption) | assumption); obtain ⟨ad200, e200, hx200_0, hx200_1, hx200_2, hx200_3⟩ := at_T59 HR0_5.out x3_2 p200 q200; obtain rfl : ad195 = ad200 := (by injection e200); replace hx200_0 := (HB.out.cell (World.block_lt_of_cell? w _ hx200_0)).trans hx200_0; replace hx200_1 := (HB.out.cell (World.block_lt_of_cell? w _ hx200_1)).trans hx200_1; replace hx200_2 := (HB.out.cell (World.block_lt_of_cell? w _ hx200_2)).trans hx200_2; replace hx200_3 := (HB.out.cell (World.block_lt_of_cell? w _ hx200_3)).trans hx200_3; replace p200 := eq_true p200; replace q200 := eq_true q200) | (go_at_call 59; (with_reducible refine (headgateref06_MayRecord.calls ((rd_T59 l0_5 x3_2).f1.f0) ((rd_T59 l0_5 x3_2).f1.f1) ((rd_T59 l0_5 x3_2).f1.f2) true _ A45.out).mono ?_); rintro e w52 ⟨rfl, hb⟩; replace HO198 := Aside0.mk (Kd.R_below (Zz.r HO198.out) hb); replace BK189 := Aside0.mk (Zz.bb BK189.out hb); replace HB := Aside0.mk (below_step (Zz.i HB.out) hb); (try clear hb)))
        go_roundg k2
        case measure => have := HJ1.out; have := HK2.out; omega
        case rel => exact ⟨(wrap64 (x3_2 + 1)), Zz.q, H', ⟨by have := HJ1.out; have := HK2.out; omega⟩, ⟨Zz.p BK189.out⟩, ⟨by repeat (first | (with_reducible first | exact HB.out | apply below_alloc | apply pw_below_drewN | apply below_drew1 | refine below_set ?_ GE189.out) | exact HB.out)⟩⟩
       replace c46 := Bool.eq_false_iff.mpr c46
       subst c46
       have H1 : (some false) = some r := by rw [if_neg (show ¬ (false = true) by decide)] at H; exact H
       clear H
       have H := H1
       clear H1
       obtain rfl := Option.some.inj H
       have hcz53 := Zz.c6 BK189.out
       have hfz53 := blk_frozen BK189.out
       have p195 : 0 ≤ (x3_2 : Int) := of_decide_eq_true (by first | (with_reducible assumption) | assumption)
       have q195 : x3_2 < (l0_5.length : Int) := of_decide_eq_true (by first | (with_reducible assumption) | assumption)
       obtain ⟨ad195, e195, hx195_0, hx195_1, hx195_2, hx195_3⟩ := at_T59 HR0_5.out x3_2 p195 q195
       cases e195
       replace hx195_0 := (HB.out.cell (World.block_lt_of_cell? w _ hx195_0)).trans hx195_0
       replace hx195_1 := (HB.out.cell (World.block_lt_of_cell? w _ hx195_1)).trans hx195_1
       replace hx195_2 := (HB.out.cell (World.block_lt_of_cell? w _ hx195_2)).trans hx195_2
       replace hx195_3 := (HB.out.cell (World.block_lt_of_cell? w _ hx195_3)).trans hx195_3
       replace p195 := eq_true p195
       replace q195 := eq_true q195
       go_wp2_with (first | ((with_reducible refine gate_dst (N := 54) rfl ?_); (try (refine gate_guard (by rfl) ?_; dsimp only)); refine Kd.R_lit (Kd.int .i64) _ 3 ?hg (N := 54) ?hd (xs := ([(rd_T59 l0_5 x3_2).f0] : List Int)) (inner := [.int .i64 ((rd_T59 l0_5 x3_2).f0)]) (ok := fun _ => True) (okp := fun _ => True) ?hr ?hp (fun _ hk => hk) trivial (Below.refl _ _) (Nat.le_refl _) (by simp) ?_; (case hd => rfl); (case hg => rfl); (case hr => first | (go_simp; done) | (go_simp; rfl)); (case hp => exact (Reps.one (show Kd.M (Kd.int .i64) _ _ _ ((rd_T59 l0_5 x3_2).f0) [.int .i64 ((rd_T59 l0_5 x3_2).f0)] from rfl) (Reps.none _ _))); intro v197 w54 ho55 hb hg_ hnew_; clear hg_ hnew_; (first | rw [← Ny196.out] at ho55 | (simp only [Int.reduceToNat] at ho55; rw [← Ny196.out] at ho55)); have HO198 := Aside0.mk (Kd.R_lower ho55 (below_size (Zz.i HB.out))); replace BK189 := Aside0.mk (Zz.bb BK189.out hb); replace HB := Aside0.mk (below_step (Zz.i HB.out) hb); clear hb ho55; obtain ⟨Ao56, co56, eo56⟩ := Kd.R_slice HO198.out; subst eo56) | ((with_reducible refine gate_callee (f := 58) rfl ?_); refine goesL_ (some 55) rfl rfl Try.func58 (by kernel_rfl) rfl #[.slice Ao56 y196.length co56] rfl Zz.g ?_; (with_reducible refine (headgateref18_in.calls k2 _ _ y196 true _ ?side1 ?side2 A43.out).mono ?_); (case side1 => repeat (first | exact (Kd.R_reads' HO198.out).2.2 | (with_reducible refine Kd.C_alloc ?_ _) | (with_reducible refine Kd.C_drewN ?_ _) | (with_reducible refine Kd.C_drew ?_))); (case side2 => exact (Kd.R_reads' HO198.out).2.1); rintro e w' ⟨rfl, ⟨nd, rfl⟩⟩; refine ⟨_, rfl, ?_⟩; have hcz57 := Zz.c6 BK189.out; have hfz57 := blk_frozen BK189.out; have p200 : 0 ≤ (x3_2 : Int) := of_decide_eq_true (by first | (with_reducible assumption) | assumption); have q200 : x3_2 < (l0_5.length : Int) := of_decide_eq_true (by first | (with_reducible assumption) | assumption); obtain ⟨ad200, e200, hx200_0, hx200_1, hx200_2, hx200_3⟩ := at_T59 HR0_5.out x3_2 p200 q200; obtain rfl : ad195 = ad200 := (by injection e200); replace hx200_0 := (HB.out.cell (World.block_lt_of_cell? w _ hx200_0)).trans hx200_0; replace hx200_1 := (HB.out.cell (World.block_lt_of_cell? w _ hx200_1)).trans hx200_1; replace hx200_2 := (HB.out.cell (World.block_lt_of_cell? w _ hx200_2)).trans hx200_2; replace hx200_3 := (HB.out.cell (World.block_lt_of_cell? w _ hx200_3)).trans hx200_3; replace p200 := eq_true p200; replace q200 := eq_true q200) | (go_at_call 59; (with_reducible refine (headgateref06_MayRecord.calls ((rd_T59 l0_5 x3_2).f1.f0) ((rd_T59 l0_5 x3_2).f1.f1) ((rd_T59 l0_5 x3_2).f1.f2) false _ A45.out).mono ?_); rintro e w58 ⟨rfl, hb⟩; replace HO198 := Aside0.mk (Kd.R_below (Zz.r HO198.out) hb); replace BK189 := Aside0.mk (Zz.bb BK189.out hb); replace HB := Aside0.mk (below_step (Zz.i HB.out) hb); (try clear hb)))
       go_ret
       exact ⟨by first | rfl | (simp [errW_none, errW_some] <;> rfl) | (simp [*, errW_none, errW_some] <;> rfl), by repeat (first | (with_reducible first | exact HB.out | apply below_alloc | apply pw_below_drewN | apply below_drew1 | refine below_set ?_ GE189.out) | exact HB.out)⟩
      replace c44 := Bool.eq_false_iff.mpr c44
      subst c44
      have H1 : (some false) = some r := by rw [if_neg (show ¬ (false = true) by decide)] at H; exact H
      clear H
      have H := H1
      clear H1
      obtain rfl := Option.some.inj H
      have hcz59 := Zz.c6 BK189.out
      have hfz59 := blk_frozen BK189.out
      have p195 : 0 ≤ (x3_2 : Int) := of_decide_eq_true (by first | (with_reducible assumption) | assumption)
      have q195 : x3_2 < (l0_5.length : Int) := of_decide_eq_true (by first | (with_reducible assumption) | assumption)
      obtain ⟨ad195, e195, hx195_0, hx195_1, hx195_2, hx195_3⟩ := at_T59 HR0_5.out x3_2 p195 q195
      cases e195
      replace hx195_0 := (HB.out.cell (World.block_lt_of_cell? w _ hx195_0)).trans hx195_0
      replace hx195_1 := (HB.out.cell (World.block_lt_of_cell? w _ hx195_1)).trans hx195_1
      replace hx195_2 := (HB.out.cell (World.block_lt_of_cell? w _ hx195_2)).trans hx195_2
      replace hx195_3 := (HB.out.cell (World.block_lt_of_cell? w _ hx195_3)).trans hx195_3
      replace p195 := eq_true p195
      replace q195 := eq_true q195
      go_wp2_with (first | ((with_reducible refine gate_dst (N := 54) rfl ?_); (try (refine gate_guard (by rfl) ?_; dsimp only)); refine Kd.R_lit (Kd.int .i64) _ 3 ?hg (N := 54) ?hd (xs := ([(rd_T59 l0_5 x3_2).f0] : List Int)) (inner := [.int .i64 ((rd_T59 l0_5 x3_2).f0)]) (ok := fun _ => True) (okp := fun _ => True) ?hr ?hp (fun _ hk => hk) trivial (Below.refl _ _) (Nat.le_refl _) (by simp) ?_; (case hd => rfl); (case hg => rfl); (case hr => first | (go_simp; done) | (go_simp; rfl)); (case hp => exact (Reps.one (show Kd.M (Kd.int .i64) _ _ _ ((rd_T59 l0_5 x3_2).f0) [.int .i64 ((rd_T59 l0_5 x3_2).f0)] from rfl) (Reps.none _ _))); intro v197 w60 ho61 hb hg_ hnew_; clear hg_ hnew_; (first | rw [← Ny196.out] at ho61 | (simp only [Int.reduceToNat] at ho61; rw [← Ny196.out] at ho61)); have HO198 := Aside0.mk (Kd.R_lower ho61 (below_size (Zz.i HB.out))); replace BK189 := Aside0.mk (Zz.bb BK189.out hb); replace HB := Aside0.mk (below_step (Zz.i HB.out) hb); clear hb ho61; obtain ⟨Ao62, co62, eo62⟩ := Kd.R_slice HO198.out; subst eo62) | ((with_reducible refine gate_callee (f := 58) rfl ?_); refine goesL_ (some 55) rfl rfl Try.func58 (by kernel_rfl) rfl #[.slice Ao62 y196.length co62] rfl Zz.g ?_; (with_reducible refine (headgateref18_in.calls k2 _ _ y196 false _ ?side1 ?side2 A43.out).mono ?_); (case side1 => repeat (first | exact (Kd.R_reads' HO198.out).2.2 | (with_reducible refine Kd.C_alloc ?_ _) | (with_reducible refine Kd.C_drewN ?_ _) | (with_reducible refine Kd.C_drew ?_))); (case side2 => exact (Kd.R_reads' HO198.out).2.1); rintro e w' ⟨rfl, ⟨nd, rfl⟩⟩; refine ⟨_, rfl, ?_⟩))
      go_ret
      exact ⟨by first | rfl | (simp [errW_none, errW_some] <;> rfl) | (simp [*, errW_none, errW_some] <;> rfl), by repeat (first | (with_reducible first | exact HB.out | apply below_alloc | apply pw_below_drewN | apply below_drew1 | refine below_set ?_ GE189.out) | exact HB.out)⟩
     rw [if_neg c42] at H
     exact absurd H (by simp)
    rw [if_neg c41] at H
    have c41b0 : decide (x3_2 < (l0_5.length : Int)) = false := decide_eq_false c41
    clear c41
    obtain rfl := Option.some.inj H
    have hcz63 := Zz.c6 BK189.out
    have hfz63 := blk_frozen BK189.out
    go_wp2
    go_ret
    exact ⟨by first | rfl | (simp [errW_none, errW_some] <;> rfl) | (simp [*, errW_none, errW_some] <;> rfl), by repeat (first | (with_reducible first | exact HB.out | apply below_alloc | apply pw_below_drewN | apply below_drew1 | refine below_set ?_ GE189.out) | exact HB.out)⟩

end Go.Proofs.Ytikbpjdgihheiaa.P
