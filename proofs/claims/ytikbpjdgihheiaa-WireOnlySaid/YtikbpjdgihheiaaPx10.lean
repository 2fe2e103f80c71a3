-- Written by wip/mk.py of this repo: the kit's print program, with contracts of our own among its functions.
import Derived.Test.YtikbpjdgihheiaaPx0
import Derived.Test.YtikbpjdgihheiaaPx5
import Derived.Test.YtikbpjdgihheiaaPx6
import Derived.Test.YtikbpjdgihheiaaZz
-- pressed
namespace Go.Proofs.Ytikbpjdgihheiaa.P
open Go.RowKit Go.Proofs.YtikbpjdgihheiaaW.PrintWords Go.Proofs.YtikbpjdgihheiaaW.PrintLast Go.Proofs.YtikbpjdgihheiaaW.PrintMore
attribute [local go_sem] max2_int min2_int max_two min_two max_three min_three max_four min_four   -- for this text's walks alone
attribute [local go_sem ↓] Kp.LDAsk_in
attribute [local go_sem] Kp.LDAsk_run
set_option linter.unusedVariables false
set_option linter.unusedSimpArgs false

/-! ### batch_Check: function 60 -/
mutual
def batch_Check.j0 : Nat → Bool → Int → Int → Int → Int → List (S57) → Option (Int)
  | 0, _, _, _, _, _, _ => none
  | k + 1, x3, x138000, x138001, x138002, x138003, x138004 => batch_Check.l0 k x3 x138004 (x138004.length : Int) 0 x138000 x138001 x138002 x138003 x138004
def batch_Check.l0 : Nat → Bool → List (S57) → Int → Int → Int → Int → Int → Int → List (S57) → Option (Int)
  | 0, _, _, _, _, _, _, _, _, _ => none
  | k + 1, x3, x28, x29, x30, x138000, x138001, x138002, x138003, x138004 => if x30 < x29 then (if 0 ≤ x30 then (if x30 < (x28.length : Int) then (if x3 = true then ((batch_may.f ((rd_T57 x28 x30).f0) ((rd_T57 x28 x30).f1) ((rd_T57 x28 x30).f2)).bind fun t144 => (batch_Check.l0 k t144 x28 x29 (wrap64 (x30 + 1)) x138000 x138001 x138002 x138003 x138004)) else (batch_Check.l0 k false x28 x29 (wrap64 (x30 + 1)) x138000 x138001 x138002 x138003 x138004)) else (none)) else (none)) else (if x138001 = 0 then (if x138002 = 0 then (batch_Check.j2 k x3 (x138003 == 0) x138000 x138001 x138002 x138003 x138004) else (batch_Check.j2 k x3 false x138000 x138001 x138002 x138003 x138004)) else (batch_Check.j2 k x3 false x138000 x138001 x138002 x138003 x138004))
def batch_Check.j2 : Nat → Bool → Bool → Int → Int → Int → Int → List (S57) → Option (Int)
  | 0, _, _, _, _, _, _, _ => none
  | k + 1, x3, x6, x138000, x138001, x138002, x138003, x138004 => if x138001 > 0 then (batch_Check.j3 k x3 x6 (decide (x138002 > 0)) x138000 x138001 x138002 x138003 x138004) else (batch_Check.j3 k x3 x6 false x138000 x138001 x138002 x138003 x138004)
def batch_Check.j3 : Nat → Bool → Bool → Bool → Int → Int → Int → Int → List (S57) → Option (Int)
  | 0, _, _, _, _, _, _, _, _ => none
  | k + 1, x3, x6, x7, x138000, x138001, x138002, x138003, x138004 => if x138000 = 1 then (if x3 = true then (if (x138004.length : Int) > 0 then (if x6 = true then (some 0) else (if x7 = true then (some 0) else (some 1))) else (some 1)) else (some 1)) else (if x138000 = 2 then (if x3 = true then (if (x138004.length : Int) > 0 then (if x7 = true then (some 0) else (some 1)) else (some 1)) else (some 1)) else (if x138000 = 3 then (batch_Check.j4 k x3 x7 (x138000 == 3) x138000 x138001 x138002 x138003 x138004) else (batch_Check.j4 k x3 x7 (x138000 == 4) x138000 x138001 x138002 x138003 x138004)))
def batch_Check.j4 : Nat → Bool → Bool → Bool → Int → Int → Int → Int → List (S57) → Option (Int)
  | 0, _, _, _, _, _, _, _, _ => none
  | k + 1, x3, x7, x90, x138000, x138001, x138002, x138003, x138004 => if x90 = true then (if x3 = true then (if (x138004.length : Int) = 0 then (if x7 = true then (if x138003 = 0 then (some 0) else (some 1)) else (some 1)) else (some 1)) else (some 1)) else (some 1)
end
def batch_Check.f (k : Nat) (a0_0 : Int) (a0_1 : Int) (a0_2 : Int) (a0_3 : Int) (l0_4 : List (S57)) : Option (Int) := (batch_within.f (([a0_1, a0_2, a0_3] : List Int))).bind fun t141 => (if t141 = true then (if a0_1 ≤ 8 then (batch_Check.j0 k (decide ((l0_4.length : Int) ≤ 64)) a0_0 a0_1 a0_2 a0_3 l0_4) else (batch_Check.j0 k false a0_0 a0_1 a0_2 a0_3 l0_4)) else (batch_Check.j0 k false a0_0 a0_1 a0_2 a0_3 l0_4))
theorem batch_Check.mono_l : ∀ k, (∀ y0 y1 y2 y3 y4 y5, LeO (batch_Check.j0 k y0 y1 y2 y3 y4 y5) (batch_Check.j0 (k + 1) y0 y1 y2 y3 y4 y5)) ∧ (∀ y0 y1 y2 y3 y4 y5 y6 y7 y8, LeO (batch_Check.l0 k y0 y1 y2 y3 y4 y5 y6 y7 y8) (batch_Check.l0 (k + 1) y0 y1 y2 y3 y4 y5 y6 y7 y8)) ∧ (∀ y0 y1 y2 y3 y4 y5 y6, LeO (batch_Check.j2 k y0 y1 y2 y3 y4 y5 y6) (batch_Check.j2 (k + 1) y0 y1 y2 y3 y4 y5 y6)) ∧ (∀ y0 y1 y2 y3 y4 y5 y6 y7, LeO (batch_Check.j3 k y0 y1 y2 y3 y4 y5 y6 y7) (batch_Check.j3 (k + 1) y0 y1 y2 y3 y4 y5 y6 y7)) ∧ (∀ y0 y1 y2 y3 y4 y5 y6 y7, LeO (batch_Check.j4 k y0 y1 y2 y3 y4 y5 y6 y7) (batch_Check.j4 (k + 1) y0 y1 y2 y3 y4 y5 y6 y7))
  | 0 => ⟨fun _ _ _ _ _ _ r h => by simp [batch_Check.j0] at h, fun _ _ _ _ _ _ _ _ _ r h => by simp [batch_Check.l0] at h, fun _ _ _ _ _ _ _ r h => by simp [batch_Check.j2] at h, fun _ _ _ _ _ _ _ _ r h => by simp [batch_Check.j3] at h, fun _ _ _ _ _ _ _ _ r h => by simp [batch_Check.j4] at h⟩
  | k + 1 => by
    obtain ⟨ih0, ih1, ih2, ih3, ih4⟩ := batch_Check.mono_l k
    refine ⟨?_, ?_, ?_, ?_, ?_⟩
    · intro y0 y1 y2 y3 y4 y5
      unfold batch_Check.j0
      repeat' first
      | (with_reducible exact ih0 _ _ _ _ _ _)
      | (with_reducible exact ih1 _ _ _ _ _ _ _ _ _)
      | (with_reducible exact ih2 _ _ _ _ _ _ _)
      | (with_reducible exact ih3 _ _ _ _ _ _ _ _)
      | (with_reducible exact ih4 _ _ _ _ _ _ _ _)
      | (with_reducible exact LeO.refl _)
      | (with_reducible exact LeO.none _)
      | (with_reducible refine LeO.ite ?_ ?_)
      | (with_reducible refine LeO.bind ?_ (fun _ => ?_))
      | exact ih0 _ _ _ _ _ _
      | exact ih1 _ _ _ _ _ _ _ _ _
      | exact ih2 _ _ _ _ _ _ _
      | exact ih3 _ _ _ _ _ _ _ _
      | exact ih4 _ _ _ _ _ _ _ _
      | exact LeO.none _
      | refine LeO.ite ?_ ?_
      | refine LeO.bind ?_ (fun _ => ?_)
    · intro y0 y1 y2 y3 y4 y5 y6 y7 y8
      unfold batch_Check.l0
      repeat' first
      | (with_reducible exact ih0 _ _ _ _ _ _)
      | (with_reducible exact ih1 _ _ _ _ _ _ _ _ _)
      | (with_reducible exact ih2 _ _ _ _ _ _ _)
      | (with_reducible exact ih3 _ _ _ _ _ _ _ _)
      | (with_reducible exact ih4 _ _ _ _ _ _ _ _)
      | (with_reducible exact LeO.refl _)
      | (with_reducible exact LeO.none _)
      | (with_reducible refine LeO.ite ?_ ?_)
      | (with_reducible refine LeO.bind ?_ (fun _ => ?_))
      | exact ih0 _ _ _ _ _ _
      | exact ih1 _ _ _ _ _ _ _ _ _
      | exact ih2 _ _ _ _ _ _ _
      | exact ih3 _ _ _ _ _ _ _ _
      | exact ih4 _ _ _ _ _ _ _ _
      | exact LeO.none _
      | refine LeO.ite ?_ ?_
      | refine LeO.bind ?_ (fun _ => ?_)
    · intro y0 y1 y2 y3 y4 y5 y6
      unfold batch_Check.j2
      repeat' first
      | (with_reducible exact ih0 _ _ _ _ _ _)
      | (with_reducible exact ih1 _ _ _ _ _ _ _ _ _)
      | (with_reducible exact ih2 _ _ _ _ _ _ _)
      | (with_reducible exact ih3 _ _ _ _ _ _ _ _)
      | (with_reducible exact ih4 _ _ _ _ _ _ _ _)
      | (with_reducible exact LeO.refl _)
      | (with_reducible exact LeO.none _)
      | (with_reducible refine LeO.ite ?_ ?_)
      | (with_reducible refine LeO.bind ?_ (fun _ => ?_))
      | exact ih0 _ _ _ _ _ _
      | exact ih1 _ _ _ _ _ _ _ _ _
      | exact ih2 _ _ _ _ _ _ _
      | exact ih3 _ _ _ _ _ _ _ _
      | exact ih4 _ _ _ _ _ _ _ _
      | exact LeO.none _
      | refine LeO.ite ?_ ?_
      | refine LeO.bind ?_ (fun _ => ?_)
    · intro y0 y1 y2 y3 y4 y5 y6 y7
      unfold batch_Check.j3
      repeat' first
      | (with_reducible exact ih0 _ _ _ _ _ _)
      | (with_reducible exact ih1 _ _ _ _ _ _ _ _ _)
      | (with_reducible exact ih2 _ _ _ _ _ _ _)
      | (with_reducible exact ih3 _ _ _ _ _ _ _ _)
      | (with_reducible exact ih4 _ _ _ _ _ _ _ _)
      | (with_reducible exact LeO.refl _)
      | (with_reducible exact LeO.none _)
      | (with_reducible refine LeO.ite ?_ ?_)
      | (with_reducible refine LeO.bind ?_ (fun _ => ?_))
      | exact ih0 _ _ _ _ _ _
      | exact ih1 _ _ _ _ _ _ _ _ _
      | exact ih2 _ _ _ _ _ _ _
      | exact ih3 _ _ _ _ _ _ _ _
      | exact ih4 _ _ _ _ _ _ _ _
      | exact LeO.none _
      | refine LeO.ite ?_ ?_
      | refine LeO.bind ?_ (fun _ => ?_)
    · intro y0 y1 y2 y3 y4 y5 y6 y7
      unfold batch_Check.j4
      repeat' first
      | (with_reducible exact ih0 _ _ _ _ _ _)
      | (with_reducible exact ih1 _ _ _ _ _ _ _ _ _)
      | (with_reducible exact ih2 _ _ _ _ _ _ _)
      | (with_reducible exact ih3 _ _ _ _ _ _ _ _)
      | (with_reducible exact ih4 _ _ _ _ _ _ _ _)
      | (with_reducible exact LeO.refl _)
      | (with_reducible exact LeO.none _)
      | (with_reducible refine LeO.ite ?_ ?_)
      | (with_reducible refine LeO.bind ?_ (fun _ => ?_))
      | exact ih0 _ _ _ _ _ _
      | exact ih1 _ _ _ _ _ _ _ _ _
      | exact ih2 _ _ _ _ _ _ _
      | exact ih3 _ _ _ _ _ _ _ _
      | exact ih4 _ _ _ _ _ _ _ _
      | exact LeO.none _
      | refine LeO.ite ?_ ?_
      | refine LeO.bind ?_ (fun _ => ?_)
theorem batch_Check.mono : ∀ a0 a1 a2 a3 a4 k, LeO (batch_Check.f k a0 a1 a2 a3 a4) (batch_Check.f (k + 1) a0 a1 a2 a3 a4) := by
  intro a0 a1 a2 a3 a4 k
  obtain ⟨ih0, ih1, ih2, ih3, ih4⟩ := batch_Check.mono_l k
  unfold batch_Check.f
  repeat' first
      | (with_reducible exact ih0 _ _ _ _ _ _)
      | (with_reducible exact ih1 _ _ _ _ _ _ _ _ _)
      | (with_reducible exact ih2 _ _ _ _ _ _ _)
      | (with_reducible exact ih3 _ _ _ _ _ _ _ _)
      | (with_reducible exact ih4 _ _ _ _ _ _ _ _)
      | (with_reducible exact LeO.refl _)
      | (with_reducible exact LeO.none _)
      | (with_reducible refine LeO.ite ?_ ?_)
      | (with_reducible refine LeO.bind ?_ (fun _ => ?_))
      | exact ih0 _ _ _ _ _ _
      | exact ih1 _ _ _ _ _ _ _ _ _
      | exact ih2 _ _ _ _ _ _ _
      | exact ih3 _ _ _ _ _ _ _ _
      | exact ih4 _ _ _ _ _ _ _ _
      | exact LeO.none _
      | refine LeO.ite ?_ ?_
      | refine LeO.bind ?_ (fun _ => ?_)
set_option maxHeartbeats 8000000 in
set_option maxRecDepth 100000 in
theorem batch_Check.calls (k : Nat) (a0_0 : Int) (a0_1 : Int) (a0_2 : Int) (a0_3 : Int) (A0_4 : Option Addr) (c0_4 : Nat) (l0_4 : List (S57)) (r : Int) (w : World) (hr0_4 : Kd.C k57 w A0_4 l0_4.length l0_4) (hc0_4 : l0_4.length ≤ c0_4) (h : batch_Check.f k a0_0 a0_1 a0_2 a0_3 l0_4 = some r) :
    Calls Try.prog 60 #[.agg #[.int .i64 a0_0, .int .i64 a0_1, .int .i64 a0_2, .int .i64 a0_3, .slice A0_4 l0_4.length c0_4]] w fun e w' => e = .returned (.int .i64 r) ∧ Below w.heap.size w w' := by
 have hu41 := Try.underlying41
 have hu57 := Try.underlying57
 have HR0_4 := Aside0.mk hr0_4
 have HC0_4 := Aside0.mk hc0_4
 clear hr0_4 hc0_4
 have HB := Aside0.mk (Below.refl w.heap.size w)
 have H : ((batch_within.f (([a0_1, a0_2, a0_3] : List Int))).bind fun t141 => (if t141 = true then (if a0_1 ≤ 8 then (batch_Check.j0 k (decide ((l0_4.length : Int) ≤ 64)) a0_0 a0_1 a0_2 a0_3 l0_4) else (batch_Check.j0 k false a0_0 a0_1 a0_2 a0_3 l0_4)) else (batch_Check.j0 k false a0_0 a0_1 a0_2 a0_3 l0_4))) = some r := h
 clear h
 have HC2 := Aside0.mk H
 clear H
 go_enter Try.func60, Try.ntmps60
 go_upto_region 1 with (first | ((with_reducible refine gate_dst (N := 1) rfl ?_); (try (refine gate_guard (by rfl) ?_; dsimp only)); refine box_event ?hg (N := 1) ?hd (cs := #[.int .i64 a0_0, .int .i64 a0_1, .int .i64 a0_2, .int .i64 a0_3, .slice A0_4 l0_4.length c0_4]) (t := 41) ?hr ?_; (case hd => rfl); (case hg => rfl); (case hr => first | (go_simp; done) | (go_simp; rfl)); intro gb137 hg w3 hbox hb; have BK137 := Aside0.mk (hbox); have GW137 := Aside0.mk (Zz.ge hg HB.out); have GE137 := Aside0.mk (Zz.ge hg HB.out); replace HB := Aside0.mk (below_step (Zz.i HB.out) hb); clear hb hbox hg))
 (try simp only [Act.put, List.setIfInBounds_toArray, List.set_cons_zero, List.set_cons_succ])
 go_cut [3] (fun v3 wc => ∃ (kq : Nat) (x3_1 : Bool), v3 = .bool x3_1 ∧ Aside0 (batch_Check.j0 kq x3_1 a0_0 a0_1 a0_2 a0_3 l0_4 = some r) ∧ Aside0 (kq ≤ k) ∧ Aside0 (wc.heap[gb137]? = some (.cells #[.int .i64 a0_0, .int .i64 a0_1, .int .i64 a0_2, .int .i64 a0_3, (.slice A0_4 l0_4.length c0_4)] 41 (0, 0))) ∧ Aside0 (Below w.heap.size w wc))
 case first =>
  have H := HC2.out
  clear HC2
  obtain ⟨y138, hy138⟩ : ∃ y_ : List Int, y_ = (([a0_1, a0_2, a0_3] : List Int)) := ⟨_, rfl⟩
  replace H : ((batch_within.f y138).bind fun t141 => (if t141 = true then (if a0_1 ≤ 8 then (batch_Check.j0 k (decide ((l0_4.length : Int) ≤ 64)) a0_0 a0_1 a0_2 a0_3 l0_4) else (batch_Check.j0 k false a0_0 a0_1 a0_2 a0_3 l0_4)) else (batch_Check.j0 k false a0_0 a0_1 a0_2 a0_3 l0_4))) = some r := by first | (rw [hy138]; with_reducible exact H) | (have H2_ := (Option.bind_some _ _).symm.trans H; rw [hy138]; with_reducible exact H2_) | (have H2_ := (Option.bind_some _ _).symm.trans H; with_reducible exact H2_) | with_reducible exact H | (rw [hy138]; exact H) | exact H
  have Ny138 := Aside0.mk hy138
  clear hy138
  replace H := Option.bind_eq_some_iff.mp H
  obtain ⟨t141, A40, H⟩ := H
  replace H : (if t141 = true then (if a0_1 ≤ 8 then (batch_Check.j0 k (decide ((l0_4.length : Int) ≤ 64)) a0_0 a0_1 a0_2 a0_3 l0_4) else (batch_Check.j0 k false a0_0 a0_1 a0_2 a0_3 l0_4)) else (batch_Check.j0 k false a0_0 a0_1 a0_2 a0_3 l0_4)) = some r := H
  have A4 := Aside0.mk A40
  clear A40
  by_cases c5 : t141 = true
  ·subst c5
   have H1 : (if a0_1 ≤ 8 then (batch_Check.j0 k (decide ((l0_4.length : Int) ≤ 64)) a0_0 a0_1 a0_2 a0_3 l0_4) else (batch_Check.j0 k false a0_0 a0_1 a0_2 a0_3 l0_4)) = some r := by rw [if_pos rfl] at H; exact H
   clear H
   have H := H1
   clear H1
   by_cases c6 : a0_1 ≤ 8
   ·rw [if_pos c6] at H
    have c6b0 : decide (a0_1 ≤ 8) = true := decide_eq_true c6
    clear c6
    (first | rw [c6b0] | rw [c6b9] | (simp only [i64_w, i32_w]; rw [c6b0]) | skip)
    have H' := Aside0.mk H
    clear H
    have hcz7 := Zz.c5 BK137.out
    have hfz7 := blk_frozen BK137.out
    go_wp2_with (first | ((with_reducible refine gate_dst (N := 14) rfl ?_); (try (refine gate_guard (by rfl) ?_; dsimp only)); refine Kd.R_lit (Kd.int .i64) _ 3 ?hg (N := 14) ?hd (xs := ([a0_1, a0_2, a0_3] : List Int)) (inner := [.int .i64 a0_1, .int .i64 a0_2, .int .i64 a0_3]) (ok := fun _ => True) (okp := fun _ => True) ?hr ?hp (fun _ hk => hk) trivial (Below.refl _ _) (Nat.le_refl _) (by simp) ?_; (case hd => rfl); (case hg => rfl); (case hr => first | (go_simp; done) | (go_simp; rfl)); (case hp => exact (Reps.one (show Kd.M (Kd.int .i64) _ _ _ a0_1 [.int .i64 a0_1] from rfl) (Reps.one (show Kd.M (Kd.int .i64) _ _ _ a0_2 [.int .i64 a0_2] from rfl) (Reps.one (show Kd.M (Kd.int .i64) _ _ _ a0_3 [.int .i64 a0_3] from rfl) (Reps.none _ _))))); intro v139 w8 ho9 hb hg_ hnew_; clear hg_ hnew_; (first | rw [← Ny138.out] at ho9 | (simp only [Int.reduceToNat] at ho9; rw [← Ny138.out] at ho9)); have HO140 := Aside0.mk (Kd.R_lower ho9 (below_size (Zz.i HB.out))); replace BK137 := Aside0.mk (Zz.bb BK137.out hb); replace HB := Aside0.mk (below_step (Zz.i HB.out) hb); clear hb ho9; obtain ⟨Ao10, co10, eo10⟩ := Kd.R_slice HO140.out; subst eo10) | ((with_reducible refine gate_callee (f := 65) rfl ?_); refine goesL_ (some 15) rfl rfl Try.func65 (by kernel_rfl) rfl #[.slice Ao10 y138.length co10] rfl Zz.g ?_; (with_reducible refine (batch_within.calls _ _ y138 true _ ?side1 ?side2 A4.out).mono ?_); (case side1 => repeat (first | exact (Kd.R_reads' HO140.out).2.2 | (with_reducible refine Kd.C_alloc ?_ _) | (with_reducible refine Kd.C_drewN ?_ _) | (with_reducible refine Kd.C_drew ?_))); (case side2 => exact (Kd.R_reads' HO140.out).2.1); rintro e w' ⟨rfl, ⟨nd, rfl⟩⟩; refine ⟨_, rfl, ?_⟩; have hcz11 := Zz.c5 BK137.out; have hfz11 := blk_frozen BK137.out))
    go_meet
    case rel => exact ⟨_, (decide ((l0_4.length : Int) ≤ 64)), Zz.q, H', ⟨by first | omega | exact Nat.le_refl _⟩, ⟨Zz.p BK137.out⟩, ⟨by repeat (first | (with_reducible first | exact HB.out | apply below_alloc | apply pw_below_drewN | apply below_drew1 | refine below_set ?_ GE137.out) | exact HB.out)⟩⟩
   rw [if_neg c6] at H
   have c6b0 : decide (a0_1 ≤ 8) = false := decide_eq_false c6
   clear c6
   (first | rw [c6b0] | rw [c6b9] | (simp only [i64_w, i32_w]; rw [c6b0]) | skip)
   have H' := Aside0.mk H
   clear H
   have hcz12 := Zz.c5 BK137.out
   have hfz12 := blk_frozen BK137.out
   go_wp2_with (first | ((with_reducible refine gate_dst (N := 14) rfl ?_); (try (refine gate_guard (by rfl) ?_; dsimp only)); refine Kd.R_lit (Kd.int .i64) _ 3 ?hg (N := 14) ?hd (xs := ([a0_1, a0_2, a0_3] : List Int)) (inner := [.int .i64 a0_1, .int .i64 a0_2, .int .i64 a0_3]) (ok := fun _ => True) (okp := fun _ => True) ?hr ?hp (fun _ hk => hk) trivial (Below.refl _ _) (Nat.le_refl _) (by simp) ?_; (case hd => rfl); (case hg => rfl); (case hr => first | (go_simp; done) | (go_simp; rfl)); (case hp => exact (Reps.one (show Kd.M (Kd.int .i64) _ _ _ a0_1 [.int .i64 a0_1] from rfl) (Reps.one (show Kd.M (Kd.int .i64) _ _ _ a0_2 [.int .i64 a0_2] from rfl) (Reps.one (show Kd.M (Kd.int .i64) _ _ _ a0_3 [.int .i64 a0_3] from rfl) (Reps.none _ _))))); intro v139 w13 ho14 hb hg_ hnew_; clear hg_ hnew_; (first | rw [← Ny138.out] at ho14 | (simp only [Int.reduceToNat] at ho14; rw [← Ny138.out] at ho14)); have HO140 := Aside0.mk (Kd.R_lower ho14 (below_size (Zz.i HB.out))); replace BK137 := Aside0.mk (Zz.bb BK137.out hb); replace HB := Aside0.mk (below_step (Zz.i HB.out) hb); clear hb ho14; obtain ⟨Ao15, co15, eo15⟩ := Kd.R_slice HO140.out; subst eo15) | ((with_reducible refine gate_callee (f := 65) rfl ?_); refine goesL_ (some 15) rfl rfl Try.func65 (by kernel_rfl) rfl #[.slice Ao15 y138.length co15] rfl Zz.g ?_; (with_reducible refine (batch_within.calls _ _ y138 true _ ?side1 ?side2 A4.out).mono ?_); (case side1 => repeat (first | exact (Kd.R_reads' HO140.out).2.2 | (with_reducible refine Kd.C_alloc ?_ _) | (with_reducible refine Kd.C_drewN ?_ _) | (with_reducible refine Kd.C_drew ?_))); (case side2 => exact (Kd.R_reads' HO140.out).2.1); rintro e w' ⟨rfl, ⟨nd, rfl⟩⟩; refine ⟨_, rfl, ?_⟩; have hcz16 := Zz.c5 BK137.out; have hfz16 := blk_frozen BK137.out))
   go_meet
   case rel => exact ⟨_, (false), Zz.q, H', ⟨by first | omega | exact Nat.le_refl _⟩, ⟨Zz.p BK137.out⟩, ⟨by repeat (first | (with_reducible first | exact HB.out | apply below_alloc | apply pw_below_drewN | apply below_drew1 | refine below_set ?_ GE137.out) | exact HB.out)⟩⟩
  replace c5 := Bool.eq_false_iff.mpr c5
  subst c5
  have H1 : (batch_Check.j0 k false a0_0 a0_1 a0_2 a0_3 l0_4) = some r := by rw [if_neg (show ¬ (false = true) by decide)] at H; exact H
  clear H
  have H := H1
  clear H1
  have H' := Aside0.mk H
  clear H
  have hcz17 := Zz.c5 BK137.out
  have hfz17 := blk_frozen BK137.out
  go_wp2_with (first | ((with_reducible refine gate_dst (N := 14) rfl ?_); (try (refine gate_guard (by rfl) ?_; dsimp only)); refine Kd.R_lit (Kd.int .i64) _ 3 ?hg (N := 14) ?hd (xs := ([a0_1, a0_2, a0_3] : List Int)) (inner := [.int .i64 a0_1, .int .i64 a0_2, .int .i64 a0_3]) (ok := fun _ => True) (okp := fun _ => True) ?hr ?hp (fun _ hk => hk) trivial (Below.refl _ _) (Nat.le_refl _) (by simp) ?_; (case hd => rfl); (case hg => rfl); (case hr => first | (go_simp; done) | (go_simp; rfl)); (case hp => exact (Reps.one (show Kd.M (Kd.int .i64) _ _ _ a0_1 [.int .i64 a0_1] from rfl) (Reps.one (show Kd.M (Kd.int .i64) _ _ _ a0_2 [.int .i64 a0_2] from rfl) (Reps.one (show Kd.M (Kd.int .i64) _ _ _ a0_3 [.int .i64 a0_3] from rfl) (Reps.none _ _))))); intro v139 w18 ho19 hb hg_ hnew_; clear hg_ hnew_; (first | rw [← Ny138.out] at ho19 | (simp only [Int.reduceToNat] at ho19; rw [← Ny138.out] at ho19)); have HO140 := Aside0.mk (Kd.R_lower ho19 (below_size (Zz.i HB.out))); replace BK137 := Aside0.mk (Zz.bb BK137.out hb); replace HB := Aside0.mk (below_step (Zz.i HB.out) hb); clear hb ho19; obtain ⟨Ao20, co20, eo20⟩ := Kd.R_slice HO140.out; subst eo20) | ((with_reducible refine gate_callee (f := 65) rfl ?_); refine goesL_ (some 15) rfl rfl Try.func65 (by kernel_rfl) rfl #[.slice Ao20 y138.length co20] rfl Zz.g ?_; (with_reducible refine (batch_within.calls _ _ y138 false _ ?side1 ?side2 A4.out).mono ?_); (case side1 => repeat (first | exact (Kd.R_reads' HO140.out).2.2 | (with_reducible refine Kd.C_alloc ?_ _) | (with_reducible refine Kd.C_drewN ?_ _) | (with_reducible refine Kd.C_drew ?_))); (case side2 => exact (Kd.R_reads' HO140.out).2.1); rintro e w' ⟨rfl, ⟨nd, rfl⟩⟩; refine ⟨_, rfl, ?_⟩))
  go_meet
  case rel => exact ⟨_, (false), Zz.q, H', ⟨by first | omega | exact Nat.le_refl _⟩, ⟨Zz.p BK137.out⟩, ⟨by repeat (first | (with_reducible first | exact HB.out | apply below_alloc | apply pw_below_drewN | apply below_drew1 | refine below_set ?_ GE137.out) | exact HB.out)⟩⟩
 clear HC2
 (try clear p2);(try clear c5);(try clear c6);(try clear c6b0);(try clear hcz11);(try clear hcz12);(try clear hcz16);(try clear hcz17);(try clear hcz7);(try clear hfz11);(try clear hfz12);(try clear hfz16);(try clear hfz17);(try clear hfz7)
 obtain ⟨kq, x3_1, rfl, HA, HJ1, BK137, HB⟩ := hcut
 cases kq with
 | zero => exact absurd HA.out (by simp [batch_Check.j0])
 | succ kj1 =>
  have H := HA.out
  clear HA
  simp only [batch_Check.j0] at H
  have H' := Aside0.mk H
  clear H
  have hcz21 := Zz.c5 BK137.out
  have hfz21 := blk_frozen BK137.out
  go_wp2
  go_loopg [3, 30] kj1 (fun kq v3 v30 w' => ∃ (x3_2 : Bool) (x30_2 : Int), v3 = .bool x3_2 ∧ v30 = .int .i64 x30_2 ∧ Aside0 (batch_Check.l0 kq x3_2 l0_4 (l0_4.length : Int) x30_2 a0_0 a0_1 a0_2 a0_3 l0_4 = some r) ∧ Aside0 (kq ≤ kj1) ∧ Aside0 (w'.heap[gb137]? = some (.cells #[.int .i64 a0_0, .int .i64 a0_1, .int .i64 a0_2, .int .i64 a0_3, (.slice A0_4 l0_4.length c0_4)] 41 (0, 0))) ∧ Aside0 (Below w.heap.size w w'))
  case atStart => exact ⟨(x3_1), (0), Zz.q, Zz.q, H', ⟨Nat.le_refl _⟩, ⟨Zz.p BK137.out⟩, ⟨by repeat (first | (with_reducible first | exact HB.out | apply below_alloc | apply pw_below_drewN | apply below_drew1 | refine below_set ?_ GE137.out) | exact HB.out)⟩⟩
  case round =>
   clear H'
   (try clear p2);(try clear c5);(try clear c6);(try clear c6b0);(try clear hcz11);(try clear hcz12);(try clear hcz16);(try clear hcz17);(try clear hcz21);(try clear hcz7);(try clear hfz11);(try clear hfz12);(try clear hfz16);(try clear hfz17);(try clear hfz21);(try clear hfz7)
   obtain ⟨x3_2, x30_2, rfl, rfl, HA, HK2, BK137, HB⟩ := hrel
   cases gk with
   | zero => exact absurd HA.out (by simp [batch_Check.l0])
   | succ k2 =>
    have H := HA.out
    clear HA
    simp only [batch_Check.l0] at H
    by_cases c22 : x30_2 < (l0_4.length : Int)
    ·rw [if_pos c22] at H
     have c22b0 : decide (x30_2 < (l0_4.length : Int)) = true := decide_eq_true c22
     clear c22
     by_cases c23 : 0 ≤ x30_2
     ·rw [if_pos c23] at H
      have c23b0 : decide (0 ≤ x30_2) = true := decide_eq_true c23
      clear c23
      by_cases c24 : x30_2 < (l0_4.length : Int)
      ·rw [if_pos c24] at H
       have c24b0 : decide (x30_2 < (l0_4.length : Int)) = true := decide_eq_true c24
       clear c24
       by_cases c25 : x3_2 = true
       ·subst c25
        have H1 : ((batch_may.f ((rd_T57 l0_4 x30_2).f0) ((rd_T57 l0_4 x30_2).f1) ((rd_T57 l0_4 x30_2).f2)).bind fun t144 => (batch_Check.l0 k2 t144 l0_4 (l0_4.length : Int) (wrap64 (x30_2 + 1)) a0_0 a0_1 a0_2 a0_3 l0_4)) = some r := by rw [if_pos rfl] at H; exact H
        clear H
        have H := H1
        clear H1
        replace H := Option.bind_eq_some_iff.mp H
        obtain ⟨t144, A260, H⟩ := H
        replace H : (batch_Check.l0 k2 t144 l0_4 (l0_4.length : Int) (wrap64 (x30_2 + 1)) a0_0 a0_1 a0_2 a0_3 l0_4) = some r := H
        have A26 := Aside0.mk A260
        clear A260
        have H' := Aside0.mk H
        clear H
        have p142 : 0 ≤ (x30_2 : Int) := of_decide_eq_true (by first | (with_reducible assumption) | assumption)
        have q142 : x30_2 < (l0_4.length : Int) := of_decide_eq_true (by first | (with_reducible assumption) | assumption)
        obtain ⟨ad142, e142, hx142_0, hx142_1, hx142_2⟩ := at_T57 HR0_4.out x30_2 p142 q142
        cases e142
        replace hx142_0 := (HB.out.cell (World.block_lt_of_cell? w _ hx142_0)).trans hx142_0
        replace hx142_1 := (HB.out.cell (World.block_lt_of_cell? w _ hx142_1)).trans hx142_1
        replace hx142_2 := (HB.out.cell (World.block_lt_of_cell? w _ hx142_2)).trans hx142_2
        replace p142 := eq_true p142
        replace q142 := eq_true q142
        go_wp2_with (first | ((with_reducible refine gate_dst (N := 5) rfl ?_); (try (refine gate_guard (by rfl) ?_; dsimp only)); refine box_event ?hg (N := 5) ?hd (cs := #[.int .i64 0, .int .i64 0, .string (⟨#[]⟩ : ByteArray)]) (t := 57) ?hr ?_; (case hd => rfl); (case hg => rfl); (case hr => first | (go_simp; done) | (go_simp; rfl)); intro gb143 hg w27 hbox hb; have BK143 := Aside0.mk (hbox); have GW143 := Aside0.mk (Zz.ge hg HB.out); have GE143 := Aside0.mk (Zz.ge hg HB.out); replace HB := Aside0.mk (below_step (Zz.i HB.out) hb); have NB137_143 := Aside0.mk (Zz.nl hg BK137.out); have NB143_137 := Aside0.mk (Zz.ng hg BK137.out); replace BK137 := Aside0.mk (Zz.bb BK137.out hb); clear hb hbox hg; have hnb28 := NB143_137.out; have hnc28 := NB137_143.out; have hcz29 := Zz.c3 BK143.out; have hfz29 := blk_frozen BK143.out) | (go_at_call 57; (with_reducible refine (batch_may.calls ((rd_T57 l0_4 x30_2).f0) ((rd_T57 l0_4 x30_2).f1) ((rd_T57 l0_4 x30_2).f2) t144 _ A26.out).mono ?_); rintro e w30 ⟨rfl, hb⟩; have n0_ := Aside0.mk (blk_below (g := gb137) (o := .cells #[.int .i64 a0_0, .int .i64 a0_1, .int .i64 a0_2, .int .i64 a0_3, .slice (some ad142) l0_4.length c0_4] 41 (0, 0)) (by exact Zz.q3 BK137.out NB137_143.out) hb); have n1_ := Aside0.mk (blk_below (g := gb143) (o := .cells #[.int .i64 ((rd_T57 l0_4 x30_2).f0), .int .i64 ((rd_T57 l0_4 x30_2).f1), .string ((rd_T57 l0_4 x30_2).f2)] 57 (0, 0)) (by (with_reducible repeat (first | refine blk_drewN ?_ _ | refine blk_drew ?_ | refine blk_alloc ?_ _)); exact Zz.u3_0_2 BK143.out) hb); have n2_ := Aside0.mk (below_step (Zz.i HB.out) hb); clear BK137; clear BK143; clear HB; have BK137 := n0_; have BK143 := n1_; have HB := n2_; clear n0_ n1_ n2_; (try clear hb)))
        go_roundg k2
        case measure => have := HJ1.out; have := HK2.out; omega
        case rel => exact ⟨(t144), (wrap64 (x30_2 + 1)), Zz.q, Zz.q, H', ⟨by have := HJ1.out; have := HK2.out; omega⟩, ⟨Zz.p BK137.out⟩, ⟨by repeat (first | (with_reducible first | exact HB.out | apply below_alloc | apply pw_below_drewN | apply below_drew1 | refine below_set ?_ GE137.out | refine below_set ?_ GE143.out) | exact HB.out)⟩⟩
       replace c25 := Bool.eq_false_iff.mpr c25
       subst c25
       have H1 : (batch_Check.l0 k2 false l0_4 (l0_4.length : Int) (wrap64 (x30_2 + 1)) a0_0 a0_1 a0_2 a0_3 l0_4) = some r := by rw [if_neg (show ¬ (false = true) by decide)] at H; exact H
       clear H
       have H := H1
       clear H1
       have H' := Aside0.mk H
       clear H
       have p142 : 0 ≤ (x30_2 : Int) := of_decide_eq_true (by first | (with_reducible assumption) | assumption)
       have q142 : x30_2 < (l0_4.length : Int) := of_decide_eq_true (by first | (with_reducible assumption) | assumption)
       obtain ⟨ad142, e142, hx142_0, hx142_1, hx142_2⟩ := at_T57 HR0_4.out x30_2 p142 q142
       cases e142
       replace hx142_0 := (HB.out.cell (World.block_lt_of_cell? w _ hx142_0)).trans hx142_0
       replace hx142_1 := (HB.out.cell (World.block_lt_of_cell? w _ hx142_1)).trans hx142_1
       replace hx142_2 := (HB.out.cell (World.block_lt_of_cell? w _ hx142_2)).trans hx142_2
       replace p142 := eq_true p142
       replace q142 := eq_true q142
       go_wp2_with (first | ((with_reducible refine gate_dst (N := 5) rfl ?_); (try (refine gate_guard (by rfl) ?_; dsimp only)); refine box_event ?hg (N := 5) ?hd (cs := #[.int .i64 0, .int .i64 0, .string (⟨#[]⟩ : ByteArray)]) (t := 57) ?hr ?_; (case hd => rfl); (case hg => rfl); (case hr => first | (go_simp; done) | (go_simp; rfl)); intro gb143 hg w31 hbox hb; have BK143 := Aside0.mk (hbox); have GW143 := Aside0.mk (Zz.ge hg HB.out); have GE143 := Aside0.mk (Zz.ge hg HB.out); replace HB := Aside0.mk (below_step (Zz.i HB.out) hb); have NB137_143 := Aside0.mk (Zz.nl hg BK137.out); have NB143_137 := Aside0.mk (Zz.ng hg BK137.out); replace BK137 := Aside0.mk (Zz.bb BK137.out hb); clear hb hbox hg; have hnb32 := NB143_137.out; have hnc32 := NB137_143.out; have hcz33 := Zz.c3 BK143.out; have hfz33 := blk_frozen BK143.out))
       go_roundg k2
       case measure => have := HJ1.out; have := HK2.out; omega
       case rel => exact ⟨(false), (wrap64 (x30_2 + 1)), Zz.q, Zz.q, H', ⟨by have := HJ1.out; have := HK2.out; omega⟩, ⟨by exact Zz.q3 BK137.out NB137_143.out⟩, ⟨by repeat (first | (with_reducible first | exact HB.out | apply below_alloc | apply pw_below_drewN | apply below_drew1 | refine below_set ?_ GE137.out | refine below_set ?_ GE143.out) | exact HB.out)⟩⟩
      rw [if_neg c24] at H
      exact absurd H (by simp)
     rw [if_neg c23] at H
     exact absurd H (by simp)
    rw [if_neg c22] at H
    have c22b0 : decide (x30_2 < (l0_4.length : Int)) = false := decide_eq_false c22
    clear c22
    have HC34 := Aside0.mk H
    clear H
    go_upto_region 7 with (fail)
    go_cut [6] (fun v6 wc => ∃ (kq : Nat) (x6_33 : Bool), v6 = .bool x6_33 ∧ Aside0 (batch_Check.j2 kq x3_2 x6_33 a0_0 a0_1 a0_2 a0_3 l0_4 = some r) ∧ Aside0 (kq ≤ k2) ∧ Aside0 (wc.heap[gb137]? = some (.cells #[.int .i64 a0_0, .int .i64 a0_1, .int .i64 a0_2, .int .i64 a0_3, (.slice A0_4 l0_4.length c0_4)] 41 (0, 0))) ∧ Aside0 (Below w.heap.size w wc))
    case first =>
     have H := HC34.out
     clear HC34
     by_cases c35 : a0_1 = 0
     ·rw [if_pos c35] at H
      have c35b0 : (a0_1 == 0) = true := beq_iff_eq.mpr c35
      have c35b1 : (a0_1 != 0) = false := bne_eq_false_iff_eq.mpr c35
      clear c35
      (first | rw [c35b0] | rw [c35b9] | (simp only [i64_w, i32_w]; rw [c35b0]) | skip)
      by_cases c36 : a0_2 = 0
      ·rw [if_pos c36] at H
       have c36b0 : (a0_2 == 0) = true := beq_iff_eq.mpr c36
       have c36b1 : (a0_2 != 0) = false := bne_eq_false_iff_eq.mpr c36
       clear c36
       have H' := Aside0.mk H
       clear H
       have hcz37 := Zz.c5 BK137.out
       have hfz37 := blk_frozen BK137.out
       go_wp2
       go_meet
       case rel => exact ⟨_, ((a0_3 == 0)), Zz.q, H', ⟨by have := HJ1.out; have := HK2.out; first | omega | exact Nat.le_refl _⟩, ⟨Zz.p BK137.out⟩, ⟨by repeat (first | (with_reducible first | exact HB.out | apply below_alloc | apply pw_below_drewN | apply below_drew1 | refine below_set ?_ GE137.out) | exact HB.out)⟩⟩
      rw [if_neg c36] at H
      have c36b0 : (a0_2 == 0) = false := beq_eq_false_iff_ne.mpr c36
      have c36b1 : (a0_2 != 0) = true := bne_iff_ne.mpr c36
      have H' := Aside0.mk H
      clear H
      have hcz38 := Zz.c5 BK137.out
      have hfz38 := blk_frozen BK137.out
      go_wp2
      go_meet
      case rel => exact ⟨_, (false), Zz.q, H', ⟨by have := HJ1.out; have := HK2.out; first | omega | exact Nat.le_refl _⟩, ⟨Zz.p BK137.out⟩, ⟨by repeat (first | (with_reducible first | exact HB.out | apply below_alloc | apply pw_below_drewN | apply below_drew1 | refine below_set ?_ GE137.out) | exact HB.out)⟩⟩
     rw [if_neg c35] at H
     have c35b0 : (a0_1 == 0) = false := beq_eq_false_iff_ne.mpr c35
     have c35b1 : (a0_1 != 0) = true := bne_iff_ne.mpr c35
     (first | rw [c35b0] | rw [c35b9] | (simp only [i64_w, i32_w]; rw [c35b0]) | skip)
     have H' := Aside0.mk H
     clear H
     have hcz39 := Zz.c5 BK137.out
     have hfz39 := blk_frozen BK137.out
     go_wp2
     go_meet
     case rel => exact ⟨_, (false), Zz.q, H', ⟨by have := HJ1.out; have := HK2.out; first | omega | exact Nat.le_refl _⟩, ⟨Zz.p BK137.out⟩, ⟨by repeat (first | (with_reducible first | exact HB.out | apply below_alloc | apply pw_below_drewN | apply below_drew1 | refine below_set ?_ GE137.out) | exact HB.out)⟩⟩
    clear HC34
    (try clear p1);(try clear q1);(try clear hx1);(try clear c2);(try clear p2);(try clear c3);(try clear c5);(try clear c6);(try clear c6b0);(try clear p6);(try clear p14);(try clear q14);(try clear hx14);(try clear c22);(try clear c22b0);(try clear c23);(try clear c23b0);(try clear c24);(try clear c24b0);(try clear c25);(try clear c28);(try clear c32);(try clear c35);(try clear c35b0);(try clear c35b1);(try clear c36);(try clear c36b0);(try clear c36b1);(try clear hcz11);(try clear hcz12);(try clear hcz16);(try clear hcz17);(try clear hcz21);(try clear hcz29);(try clear hcz33);(try clear hcz37);(try clear hcz38);(try clear hcz39);(try clear hcz7);(try clear hfz11);(try clear hfz12);(try clear hfz16);(try clear hfz17);(try clear hfz21);(try clear hfz29);(try clear hfz33);(try clear hfz37);(try clear hfz38);(try clear hfz39);(try clear hfz7);(try clear hx142_0);(try clear hx142_1);(try clear hx142_2);(try clear p142);(try clear q142)
    obtain ⟨kq, x6_33, rfl, HA, HJ33, BK137, HB⟩ := hcut
    cases kq with
    | zero => exact absurd HA.out (by simp [batch_Check.j2])
    | succ kj33 =>
     have H := HA.out
     clear HA
     simp only [batch_Check.j2] at H
     have HC40 := Aside0.mk H
     clear H
     go_upto_region 8 with (fail)
     go_cut [7] (fun v7 wc => ∃ (kq : Nat) (x7_39 : Bool), v7 = .bool x7_39 ∧ Aside0 (batch_Check.j3 kq x3_2 x6_33 x7_39 a0_0 a0_1 a0_2 a0_3 l0_4 = some r) ∧ Aside0 (kq ≤ kj33) ∧ Aside0 (wc.heap[gb137]? = some (.cells #[.int .i64 a0_0, .int .i64 a0_1, .int .i64 a0_2, .int .i64 a0_3, (.slice A0_4 l0_4.length c0_4)] 41 (0, 0))) ∧ Aside0 (Below w.heap.size w wc))
     case first =>
      have H := HC40.out
      clear HC40
      by_cases c41 : a0_1 > 0
      ·rw [if_pos c41] at H
       have c41b0 : decide (0 < a0_1) = true := decide_eq_true c41
       clear c41
       (first | rw [c41b0] | rw [c41b9] | (simp only [i64_w, i32_w]; rw [c41b0]) | skip)
       have H' := Aside0.mk H
       clear H
       have hcz42 := Zz.c5 BK137.out
       have hfz42 := blk_frozen BK137.out
       go_wp2
       go_meet
       case rel => exact ⟨_, (decide (a0_2 > 0)), Zz.q, H', ⟨by have := HJ1.out; have := HK2.out; have := HJ33.out; first | omega | exact Nat.le_refl _⟩, ⟨Zz.p BK137.out⟩, ⟨by repeat (first | (with_reducible first | exact HB.out | apply below_alloc | apply pw_below_drewN | apply below_drew1 | refine below_set ?_ GE137.out) | exact HB.out)⟩⟩
      rw [if_neg c41] at H
      have c41b0 : decide (0 < a0_1) = false := decide_eq_false c41
      clear c41
      (first | rw [c41b0] | rw [c41b9] | (simp only [i64_w, i32_w]; rw [c41b0]) | skip)
      have H' := Aside0.mk H
      clear H
      have hcz43 := Zz.c5 BK137.out
      have hfz43 := blk_frozen BK137.out
      go_wp2
      go_meet
      case rel => exact ⟨_, (false), Zz.q, H', ⟨by have := HJ1.out; have := HK2.out; have := HJ33.out; first | omega | exact Nat.le_refl _⟩, ⟨Zz.p BK137.out⟩, ⟨by repeat (first | (with_reducible first | exact HB.out | apply below_alloc | apply pw_below_drewN | apply below_drew1 | refine below_set ?_ GE137.out) | exact HB.out)⟩⟩
     clear HC40
     (try clear p1);(try clear q1);(try clear hx1);(try clear c2);(try clear p2);(try clear c3);(try clear c4);(try clear c5);(try clear c6);(try clear c6b0);(try clear p6);(try clear p14);(try clear q14);(try clear hx14);(try clear c22);(try clear c22b0);(try clear c23);(try clear c23b0);(try clear c24);(try clear c24b0);(try clear c25);(try clear c28);(try clear c32);(try clear c35);(try clear c35b0);(try clear c35b1);(try clear c36);(try clear c36b0);(try clear c36b1);(try clear c41);(try clear c41b0);(try clear hcz11);(try clear hcz12);(try clear hcz16);(try clear hcz17);(try clear hcz21);(try clear hcz29);(try clear hcz33);(try clear hcz37);(try clear hcz38);(try clear hcz39);(try clear hcz42);(try clear hcz43);(try clear hcz7);(try clear hfz11);(try clear hfz12);(try clear hfz16);(try clear hfz17);(try clear hfz21);(try clear hfz29);(try clear hfz33);(try clear hfz37);(try clear hfz38);(try clear hfz39);(try clear hfz42);(try clear hfz43);(try clear hfz7);(try clear hx142_0);(try clear hx142_1);(try clear hx142_2);(try clear p142);(try clear q142)
     obtain ⟨kq, x7_39, rfl, HA, HJ39, BK137, HB⟩ := hcut
     cases kq with
     | zero => exact absurd HA.out (by simp [batch_Check.j3])
     | succ kj39 =>
      have H := HA.out
      clear HA
      simp only [batch_Check.j3] at H
      by_cases c44 : a0_0 = 1
      ·rw [if_pos c44] at H
       have c44b0 : (a0_0 == 1) = true := beq_iff_eq.mpr c44
       have c44b1 : (a0_0 != 1) = false := bne_eq_false_iff_eq.mpr c44
       clear c44
       by_cases c45 : x3_2 = true
       ·subst c45
        have H1 : (if (l0_4.length : Int) > 0 then (if x6_33 = true then (some 0) else (if x7_39 = true then (some 0) else (some 1))) else (some 1)) = some r := by rw [if_pos rfl] at H; exact H
        clear H
        have H := H1
        clear H1
        by_cases c46 : (l0_4.length : Int) > 0
        ·rw [if_pos c46] at H
         have c46b0 : decide (0 < (l0_4.length : Int)) = true := decide_eq_true c46
         have c46b1 : decide (0 < l0_4.length) = true := decide_eq_true (by omega)
         clear c46
         by_cases c47 : x6_33 = true
         ·subst c47
          have H1 : (some 0) = some r := by rw [if_pos rfl] at H; exact H
          clear H
          have H := H1
          clear H1
          obtain rfl := Option.some.inj H
          have hcz48 := Zz.c5 BK137.out
          have hfz48 := blk_frozen BK137.out
          go_wp2
          go_ret
          exact ⟨by first | rfl | (simp [errW_none, errW_some] <;> rfl) | (simp [*, errW_none, errW_some] <;> rfl), by repeat (first | (with_reducible first | exact HB.out | apply below_alloc | apply pw_below_drewN | apply below_drew1 | refine below_set ?_ GE137.out) | exact HB.out)⟩
         replace c47 := Bool.eq_false_iff.mpr c47
         subst c47
         have H1 : (if x7_39 = true then (some 0) else (some 1)) = some r := by rw [if_neg (show ¬ (false = true) by decide)] at H; exact H
         clear H
         have H := H1
         clear H1
         by_cases c49 : x7_39 = true
         ·subst c49
          have H1 : (some 0) = some r := by rw [if_pos rfl] at H; exact H
          clear H
          have H := H1
          clear H1
          obtain rfl := Option.some.inj H
          have hcz50 := Zz.c5 BK137.out
          have hfz50 := blk_frozen BK137.out
          go_wp2
          go_ret
          exact ⟨by first | rfl | (simp [errW_none, errW_some] <;> rfl) | (simp [*, errW_none, errW_some] <;> rfl), by repeat (first | (with_reducible first | exact HB.out | apply below_alloc | apply pw_below_drewN | apply below_drew1 | refine below_set ?_ GE137.out) | exact HB.out)⟩
         replace c49 := Bool.eq_false_iff.mpr c49
         subst c49
         have H1 : (some 1) = some r := by rw [if_neg (show ¬ (false = true) by decide)] at H; exact H
         clear H
         have H := H1
         clear H1
         obtain rfl := Option.some.inj H
         have hcz51 := Zz.c5 BK137.out
         have hfz51 := blk_frozen BK137.out
         go_wp2
         go_ret
         exact ⟨by first | rfl | (simp [errW_none, errW_some] <;> rfl) | (simp [*, errW_none, errW_some] <;> rfl), by repeat (first | (with_reducible first | exact HB.out | apply below_alloc | apply pw_below_drewN | apply below_drew1 | refine below_set ?_ GE137.out) | exact HB.out)⟩
        rw [if_neg c46] at H
        have c46b0 : decide (0 < (l0_4.length : Int)) = false := decide_eq_false c46
        have c46b1 : decide (0 < l0_4.length) = false := decide_eq_false (by omega)
        clear c46
        obtain rfl := Option.some.inj H
        have hcz52 := Zz.c5 BK137.out
        have hfz52 := blk_frozen BK137.out
        go_wp2
        go_ret
        exact ⟨by first | rfl | (simp [errW_none, errW_some] <;> rfl) | (simp [*, errW_none, errW_some] <;> rfl), by repeat (first | (with_reducible first | exact HB.out | apply below_alloc | apply pw_below_drewN | apply below_drew1 | refine below_set ?_ GE137.out) | exact HB.out)⟩
       replace c45 := Bool.eq_false_iff.mpr c45
       subst c45
       have H1 : (some 1) = some r := by rw [if_neg (show ¬ (false = true) by decide)] at H; exact H
       clear H
       have H := H1
       clear H1
       obtain rfl := Option.some.inj H
       have hcz53 := Zz.c5 BK137.out
       have hfz53 := blk_frozen BK137.out
       go_wp2
       go_ret
       exact ⟨by first | rfl | (simp [errW_none, errW_some] <;> rfl) | (simp [*, errW_none, errW_some] <;> rfl), by repeat (first | (with_reducible first | exact HB.out | apply below_alloc | apply pw_below_drewN | apply below_drew1 | refine below_set ?_ GE137.out) | exact HB.out)⟩
      rw [if_neg c44] at H
      have c44b0 : (a0_0 == 1) = false := beq_eq_false_iff_ne.mpr c44
      have c44b1 : (a0_0 != 1) = true := bne_iff_ne.mpr c44
      by_cases c54 : a0_0 = 2
      ·rw [if_pos c54] at H
       have c54b0 : (a0_0 == 2) = true := beq_iff_eq.mpr c54
       have c54b1 : (a0_0 != 2) = false := bne_eq_false_iff_eq.mpr c54
       clear c54
       by_cases c55 : x3_2 = true
       ·subst c55
        have H1 : (if (l0_4.length : Int) > 0 then (if x7_39 = true then (some 0) else (some 1)) else (some 1)) = some r := by rw [if_pos rfl] at H; exact H
        clear H
        have H := H1
        clear H1
        by_cases c56 : (l0_4.length : Int) > 0
        ·rw [if_pos c56] at H
         have c56b0 : decide (0 < (l0_4.length : Int)) = true := decide_eq_true c56
         have c56b1 : decide (0 < l0_4.length) = true := decide_eq_true (by omega)
         clear c56
         by_cases c57 : x7_39 = true
         ·subst c57
          have H1 : (some 0) = some r := by rw [if_pos rfl] at H; exact H
          clear H
          have H := H1
          clear H1
          obtain rfl := Option.some.inj H
          have hcz58 := Zz.c5 BK137.out
          have hfz58 := blk_frozen BK137.out
          go_wp2
          go_ret
          exact ⟨by first | rfl | (simp [errW_none, errW_some] <;> rfl) | (simp [*, errW_none, errW_some] <;> rfl), by repeat (first | (with_reducible first | exact HB.out | apply below_alloc | apply pw_below_drewN | apply below_drew1 | refine below_set ?_ GE137.out) | exact HB.out)⟩
         replace c57 := Bool.eq_false_iff.mpr c57
         subst c57
         have H1 : (some 1) = some r := by rw [if_neg (show ¬ (false = true) by decide)] at H; exact H
         clear H
         have H := H1
         clear H1
         obtain rfl := Option.some.inj H
         have hcz59 := Zz.c5 BK137.out
         have hfz59 := blk_frozen BK137.out
         go_wp2
         go_ret
         exact ⟨by first | rfl | (simp [errW_none, errW_some] <;> rfl) | (simp [*, errW_none, errW_some] <;> rfl), by repeat (first | (with_reducible first | exact HB.out | apply below_alloc | apply pw_below_drewN | apply below_drew1 | refine below_set ?_ GE137.out) | exact HB.out)⟩
        rw [if_neg c56] at H
        have c56b0 : decide (0 < (l0_4.length : Int)) = false := decide_eq_false c56
        have c56b1 : decide (0 < l0_4.length) = false := decide_eq_false (by omega)
        clear c56
        obtain rfl := Option.some.inj H
        have hcz60 := Zz.c5 BK137.out
        have hfz60 := blk_frozen BK137.out
        go_wp2
        go_ret
        exact ⟨by first | rfl | (simp [errW_none, errW_some] <;> rfl) | (simp [*, errW_none, errW_some] <;> rfl), by repeat (first | (with_reducible first | exact HB.out | apply below_alloc | apply pw_below_drewN | apply below_drew1 | refine below_set ?_ GE137.out) | exact HB.out)⟩
       replace c55 := Bool.eq_false_iff.mpr c55
       subst c55
       have H1 : (some 1) = some r := by rw [if_neg (show ¬ (false = true) by decide)] at H; exact H
       clear H
       have H := H1
       clear H1
       obtain rfl := Option.some.inj H
       have hcz61 := Zz.c5 BK137.out
       have hfz61 := blk_frozen BK137.out
       go_wp2
       go_ret
       exact ⟨by first | rfl | (simp [errW_none, errW_some] <;> rfl) | (simp [*, errW_none, errW_some] <;> rfl), by repeat (first | (with_reducible first | exact HB.out | apply below_alloc | apply pw_below_drewN | apply below_drew1 | refine below_set ?_ GE137.out) | exact HB.out)⟩
      rw [if_neg c54] at H
      have c54b0 : (a0_0 == 2) = false := beq_eq_false_iff_ne.mpr c54
      have c54b1 : (a0_0 != 2) = true := bne_iff_ne.mpr c54
      have HC62 := Aside0.mk H
      clear H
      have hcz63 := Zz.c5 BK137.out
      have hfz63 := blk_frozen BK137.out
      go_upto_if 90 with (fail)
      go_cut [90] (fun v90 wc => ∃ (kq : Nat) (x90_61 : Bool), v90 = .bool x90_61 ∧ Aside0 (batch_Check.j4 kq x3_2 x7_39 x90_61 a0_0 a0_1 a0_2 a0_3 l0_4 = some r) ∧ Aside0 (kq ≤ kj39) ∧ Aside0 (wc.heap[gb137]? = some (.cells #[.int .i64 a0_0, .int .i64 a0_1, .int .i64 a0_2, .int .i64 a0_3, (.slice A0_4 l0_4.length c0_4)] 41 (0, 0))) ∧ Aside0 (Below w.heap.size w wc))
      case first =>
       have H := HC62.out
       clear HC62
       by_cases c64 : a0_0 = 3
       ·rw [if_pos c64] at H
        have c64b0 : (a0_0 == 3) = true := beq_iff_eq.mpr c64
        have c64b1 : (a0_0 != 3) = false := bne_eq_false_iff_eq.mpr c64
        clear c64
        (first | rw [c64b0] | rw [c64b9] | (simp only [i64_w, i32_w]; rw [c64b0]) | skip)
        have H' := Aside0.mk H
        clear H
        go_wp2
        go_meet
        case rel => exact ⟨_, ((a0_0 == 3)), Zz.q, H', ⟨by have := HJ1.out; have := HK2.out; have := HJ33.out; have := HJ39.out; first | omega | exact Nat.le_refl _⟩, ⟨Zz.p BK137.out⟩, ⟨by repeat (first | (with_reducible first | exact HB.out | apply below_alloc | apply pw_below_drewN | apply below_drew1 | refine below_set ?_ GE137.out) | exact HB.out)⟩⟩
       rw [if_neg c64] at H
       have c64b0 : (a0_0 == 3) = false := beq_eq_false_iff_ne.mpr c64
       have c64b1 : (a0_0 != 3) = true := bne_iff_ne.mpr c64
       (first | rw [c64b0] | rw [c64b9] | (simp only [i64_w, i32_w]; rw [c64b0]) | skip)
       have H' := Aside0.mk H
       clear H
       go_wp2
       go_meet
       case rel => exact ⟨_, ((a0_0 == 4)), Zz.q, H', ⟨by have := HJ1.out; have := HK2.out; have := HJ33.out; have := HJ39.out; first | omega | exact Nat.le_refl _⟩, ⟨Zz.p BK137.out⟩, ⟨by repeat (first | (with_reducible first | exact HB.out | apply below_alloc | apply pw_below_drewN | apply below_drew1 | refine below_set ?_ GE137.out) | exact HB.out)⟩⟩
      clear HC62
      (try clear p1);(try clear q1);(try clear hx1);(try clear c2);(try clear p2);(try clear c3);(try clear c4);(try clear c5);(try clear c6);(try clear c6b0);(try clear p6);(try clear p14);(try clear q14);(try clear hx14);(try clear c22);(try clear c22b0);(try clear c23);(try clear c23b0);(try clear c24);(try clear c24b0);(try clear c25);(try clear c28);(try clear c32);(try clear c35);(try clear c35b0);(try clear c35b1);(try clear c36);(try clear c36b0);(try clear c36b1);(try clear c41);(try clear c41b0);(try clear c44);(try clear c44b0);(try clear c44b1);(try clear c45);(try clear c46);(try clear c46b0);(try clear c46b1);(try clear c47);(try clear c49);(try clear c54);(try clear c54b0);(try clear c54b1);(try clear c55);(try clear c56);(try clear c56b0);(try clear c56b1);(try clear c57);(try clear c64);(try clear c64b0);(try clear c64b1);(try clear hcz11);(try clear hcz12);(try clear hcz16);(try clear hcz17);(try clear hcz21);(try clear hcz29);(try clear hcz33);(try clear hcz37);(try clear hcz38);(try clear hcz39);(try clear hcz42);(try clear hcz43);(try clear hcz48);(try clear hcz50);(try clear hcz51);(try clear hcz52);(try clear hcz53);(try clear hcz58);(try clear hcz59);(try clear hcz60);(try clear hcz61);(try clear hcz63);(try clear hcz7);(try clear hfz11);(try clear hfz12);(try clear hfz16);(try clear hfz17);(try clear hfz21);(try clear hfz29);(try clear hfz33);(try clear hfz37);(try clear hfz38);(try clear hfz39);(try clear hfz42);(try clear hfz43);(try clear hfz48);(try clear hfz50);(try clear hfz51);(try clear hfz52);(try clear hfz53);(try clear hfz58);(try clear hfz59);(try clear hfz60);(try clear hfz61);(try clear hfz63);(try clear hfz7);(try clear hx142_0);(try clear hx142_1);(try clear hx142_2);(try clear p142);(try clear q142)
      obtain ⟨kq, x90_61, rfl, HA, HJ61, BK137, HB⟩ := hcut
      cases kq with
      | zero => exact absurd HA.out (by simp [batch_Check.j4])
      | succ kj61 =>
       have H := HA.out
       clear HA
       simp only [batch_Check.j4] at H
       by_cases c65 : x90_61 = true
       ·subst c65
        have H1 : (if x3_2 = true then (if (l0_4.length : Int) = 0 then (if x7_39 = true then (if a0_3 = 0 then (some 0) else (some 1)) else (some 1)) else (some 1)) else (some 1)) = some r := by rw [if_pos rfl] at H; exact H
        clear H
        have H := H1
        clear H1
        by_cases c66 : x3_2 = true
        ·subst c66
         have H1 : (if (l0_4.length : Int) = 0 then (if x7_39 = true then (if a0_3 = 0 then (some 0) else (some 1)) else (some 1)) else (some 1)) = some r := by rw [if_pos rfl] at H; exact H
         clear H
         have H := H1
         clear H1
         by_cases c67 : (l0_4.length : Int) = 0
         ·rw [if_pos c67] at H
          have c67b0 : ((l0_4.length : Int) == 0) = true := beq_iff_eq.mpr c67
          have c67b1 : ((l0_4.length : Int) != 0) = false := bne_eq_false_iff_eq.mpr c67
          clear c67
          by_cases c68 : x7_39 = true
          ·subst c68
           have H1 : (if a0_3 = 0 then (some 0) else (some 1)) = some r := by rw [if_pos rfl] at H; exact H
           clear H
           have H := H1
           clear H1
           by_cases c69 : a0_3 = 0
           ·rw [if_pos c69] at H
            have c69b0 : (a0_3 == 0) = true := beq_iff_eq.mpr c69
            have c69b1 : (a0_3 != 0) = false := bne_eq_false_iff_eq.mpr c69
            clear c69
            obtain rfl := Option.some.inj H
            have hcz70 := Zz.c5 BK137.out
            have hfz70 := blk_frozen BK137.out
            go_wp2
            go_ret
            exact ⟨by first | rfl | (simp [errW_none, errW_some] <;> rfl) | (simp [*, errW_none, errW_some] <;> rfl), by repeat (first | (with_reducible first | exact HB.out | apply below_alloc | apply pw_below_drewN | apply below_drew1 | refine below_set ?_ GE137.out) | exact HB.out)⟩
           rw [if_neg c69] at H
           have c69b0 : (a0_3 == 0) = false := beq_eq_false_iff_ne.mpr c69
           have c69b1 : (a0_3 != 0) = true := bne_iff_ne.mpr c69
           obtain rfl := Option.some.inj H
           have hcz71 := Zz.c5 BK137.out
           have hfz71 := blk_frozen BK137.out
           go_wp2
           go_ret
           exact ⟨by first | rfl | (simp [errW_none, errW_some] <;> rfl) | (simp [*, errW_none, errW_some] <;> rfl), by repeat (first | (with_reducible first | exact HB.out | apply below_alloc | apply pw_below_drewN | apply below_drew1 | refine below_set ?_ GE137.out) | exact HB.out)⟩
          replace c68 := Bool.eq_false_iff.mpr c68
          subst c68
          have H1 : (some 1) = some r := by rw [if_neg (show ¬ (false = true) by decide)] at H; exact H
          clear H
          have H := H1
          clear H1
          obtain rfl := Option.some.inj H
          have hcz72 := Zz.c5 BK137.out
          have hfz72 := blk_frozen BK137.out
          go_wp2
          go_ret
          exact ⟨by first | rfl | (simp [errW_none, errW_some] <;> rfl) | (simp [*, errW_none, errW_some] <;> rfl), by repeat (first | (with_reducible first | exact HB.out | apply below_alloc | apply pw_below_drewN | apply below_drew1 | refine below_set ?_ GE137.out) | exact HB.out)⟩
         rw [if_neg c67] at H
         have c67b0 : ((l0_4.length : Int) == 0) = false := beq_eq_false_iff_ne.mpr c67
         have c67b1 : ((l0_4.length : Int) != 0) = true := bne_iff_ne.mpr c67
         have c67b2 : ¬ (l0_4 = []) := fun h_ => c67 (by rw [h_]; rfl)
         obtain rfl := Option.some.inj H
         have hcz73 := Zz.c5 BK137.out
         have hfz73 := blk_frozen BK137.out
         go_wp2
         go_ret
         exact ⟨by first | rfl | (simp [errW_none, errW_some] <;> rfl) | (simp [*, errW_none, errW_some] <;> rfl), by repeat (first | (with_reducible first | exact HB.out | apply below_alloc | apply pw_below_drewN | apply below_drew1 | refine below_set ?_ GE137.out) | exact HB.out)⟩
        replace c66 := Bool.eq_false_iff.mpr c66
        subst c66
        have H1 : (some 1) = some r := by rw [if_neg (show ¬ (false = true) by decide)] at H; exact H
        clear H
        have H := H1
        clear H1
        obtain rfl := Option.some.inj H
        go_wp2
        go_ret
        exact ⟨by first | rfl | (simp [errW_none, errW_some] <;> rfl) | (simp [*, errW_none, errW_some] <;> rfl), by repeat (first | (with_reducible first | exact HB.out | apply below_alloc | apply pw_below_drewN | apply below_drew1 | refine below_set ?_ GE137.out) | exact HB.out)⟩
       replace c65 := Bool.eq_false_iff.mpr c65
       subst c65
       have H1 : (some 1) = some r := by rw [if_neg (show ¬ (false = true) by decide)] at H; exact H
       clear H
       have H := H1
       clear H1
       obtain rfl := Option.some.inj H
       go_wp2
       go_ret
       exact ⟨by first | rfl | (simp [errW_none, errW_some] <;> rfl) | (simp [*, errW_none, errW_some] <;> rfl), by repeat (first | (with_reducible first | exact HB.out | apply below_alloc | apply pw_below_drewN | apply below_drew1 | refine below_set ?_ GE137.out) | exact HB.out)⟩

end Go.Proofs.Ytikbpjdgihheiaa.P
