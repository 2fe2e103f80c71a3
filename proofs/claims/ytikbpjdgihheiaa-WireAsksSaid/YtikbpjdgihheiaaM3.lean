-- Written by wip/mk.py of this repo: the kit's print program, with contracts of our own among its functions (merge.py: Px10 Px11).
import Derived.Test.YtikbpjdgihheiaaM0
import Derived.Test.YtikbpjdgihheiaaM2
import Derived.Test.YtikbpjdgihheiaaZz
import Derived.Test.YtikbpjdgihheiaaZr
import Derived.Test.YtikbpjdgihheiaaM1
section
namespace Go.Proofs.Ytikbpjdgihheiaa.P
open Go.RowKit Go.Proofs.YtikbpjdgihheiaaW.PrintWords Go.Proofs.YtikbpjdgihheiaaW.PrintLast Go.Proofs.YtikbpjdgihheiaaW.PrintMore
attribute [local go_sem] max2_int min2_int max_two min_two max_three min_three max_four min_four   -- for this text's walks alone
attribute [local go_sem ↓] Kp.LDAsk_in
attribute [local go_sem] Kp.LDAsk_run
set_option linter.unusedVariables false
set_option linter.unusedSimpArgs false

/-! ### batch_Check: function 60 -/
mutual
def batch_Check.j0 : Nat → Bool → Int → Int → Int → Int → List (S57) → Option (Int)
  | 0, _, _, _, _, _, _ => none
  | k + 1, x3, x138000, x138001, x138002, x138003, x138004 => batch_Check.l0 k x3 x138004 (x138004.length : Int) 0 x138000 x138001 x138002 x138003 x138004
def batch_Check.l0 : Nat → Bool → List (S57) → Int → Int → Int → Int → Int → Int → List (S57) → Option (Int)
  | 0, _, _, _, _, _, _, _, _, _ => none
  | k + 1, x3, x28, x29, x30, x138000, x138001, x138002, x138003, x138004 => if x30 < x29 then (if 0 ≤ x30 then (if x30 < (x28.length : Int) then (if x3 = true then ((batch_may.f ((rd_T57 x28 x30).f0) ((rd_T57 x28 x30).f1) ((rd_T57 x28 x30).f2)).bind fun t144 => (batch_Check.l0 k t144 x28 x29 (wrap64 (x30 + 1)) x138000 x138001 x138002 x138003 x138004)) else (batch_Check.l0 k false x28 x29 (wrap64 (x30 + 1)) x138000 x138001 x138002 x138003 x138004)) else (none)) else (none)) else (if x138001 = 0 then (if x138002 = 0 then (batch_Check.j2 k x3 (x138003 == 0) x138000 x138001 x138002 x138003 x138004) else (batch_Check.j2 k x3 false x138000 x138001 x138002 x138003 x138004)) else (batch_Check.j2 k x3 false x138000 x138001 x138002 x138003 x138004))
def batch_Check.j2 : Nat → Bool → Bool → Int → Int → Int → Int → List (S57) → Option (Int)
  | 0, _, _, _, _, _, _, _ => none
  | k + 1, x3, x6, x138000, x138001, x138002, x138003, x138004 => if x138001 > 0 then (batch_Check.j3 k x3 x6 (decide (x138002 > 0)) x138000 x138001 x138002 x138003 x138004) else (batch_Check.j3 k x3 x6 false x138000 x138001 x138002 x138003 x138004)
def batch_Check.j3 : Nat → Bool → Bool → Bool → Int → Int → Int → Int → List (S57) → Option (Int)
  | 0, _, _, _, _, _, _, _, _ => none
  | k + 1, x3, x6, x7, x138000, x138001, x138002, x138003, x138004 => if x138000 = 1 then (if x3 = true then (if (x138004.length : Int) > 0 then (if x6 = true then (some 0) else (if x7 = true then (some 0) else (some 1))) else (some 1)) else (some 1)) else (if x138000 = 2 then (if x3 = true then (if (x138004.length : Int) > 0 then (if x7 = true then (some 0) else (some 1)) else (some 1)) else (some 1)) else (if x138000 = 3 then (batch_Check.j4 k x3 x7 (x138000 == 3) x138000 x138001 x138002 x138003 x138004) else (batch_Check.j4 k x3 x7 (x138000 == 4) x138000 x138001 x138002 x138003 x138004)))
def batch_Check.j4 : Nat → Bool → Bool → Bool → Int → Int → Int → Int → List (S57) → Option (Int)
  | 0, _, _, _, _, _, _, _, _ => none
  | k + 1, x3, x7, x90, x138000, x138001, x138002, x138003, x138004 => if x90 = true then (if x3 = true then (if (x138004.length : Int) = 0 then (if x7 = true then (if x138003 = 0 then (some 0) else (some 1)) else (some 1)) else (some 1)) else (some 1)) else (some 1)
end
def batch_Check.f (k : Nat) (a0_0 : Int) (a0_1 : Int) (a0_2 : Int) (a0_3 : Int) (l0_4 : List (S57)) : Option (Int) := (batch_within.f (([a0_1, a0_2, a0_3] : List Int))).bind fun t141 => (if t141 = true then (if a0_1 ≤ 8 then (batch_Check.j0 k (decide ((l0_4.length : Int) ≤ 64)) a0_0 a0_1 a0_2 a0_3 l0_4) else (batch_Check.j0 k false a0_0 a0_1 a0_2 a0_3 l0_4)) else (batch_Check.j0 k false a0_0 a0_1 a0_2 a0_3 l0_4))
set_option maxHeartbeats 8000000 in
set_option maxRecDepth 100000 in
theorem batch_Check.calls (k : Nat) (a0_0 : Int) (a0_1 : Int) (a0_2 : Int) (a0_3 : Int) (A0_4 : Option Addr) (c0_4 : Nat) (l0_4 : List (S57)) (r : Int) (w : World) (hr0_4 : Kd.C k57 w A0_4 l0_4.length l0_4) (hc0_4 : l0_4.length ≤ c0_4) (h : batch_Check.f k a0_0 a0_1 a0_2 a0_3 l0_4 = some r) :
    Calls Try.prog 60 #[.agg #[.int .i64 a0_0, .int .i64 a0_1, .int .i64 a0_2, .int .i64 a0_3, .slice A0_4 l0_4.length c0_4]] w fun e w' => e = .returned (.int .i64 r) ∧ Below w.heap.size w w' := by
 have hu41 := Try.underlying41
 have hu57 := Try.underlying57
 have HR0_4 := Aside0.mk hr0_4
 have HC0_4 := Aside0.mk hc0_4
 clear hr0_4 hc0_4
 have HB := Aside0.mk (Below.refl w.heap.size w)
 have H : ((batch_within.f (([a0_1, a0_2, a0_3] : List Int))).bind fun t141 => (if t141 = true then (if a0_1 ≤ 8 then (batch_Check.j0 k (decide ((l0_4.length : Int) ≤ 64)) a0_0 a0_1 a0_2 a0_3 l0_4) else (batch_Check.j0 k false a0_0 a0_1 a0_2 a0_3 l0_4)) else (batch_Check.j0 k false a0_0 a0_1 a0_2 a0_3 l0_4))) = some r := h
 clear h
 have HC2 := Aside0.mk H
 clear H
 go_enter Try.func60, Try.ntmps60
 go_upto_region 1 with (first | ((with_reducible refine gate_dst (N := 1) rfl ?_); (try (refine gate_guard (by rfl) ?_; dsimp only)); refine box_event ?hg (N := 1) ?hd (cs := #[.int .i64 a0_0, .int .i64 a0_1, .int .i64 a0_2, .int .i64 a0_3, .slice A0_4 l0_4.length c0_4]) (t := 41) ?hr ?_; (case hd => rfl); (case hg => rfl); (case hr => first | (go_simp; done) | (go_simp; rfl)); intro gb137 hg w3 hbox hb; have BK137 := Aside0.mk (hbox); have GW137 := Aside0.mk (Zz.ge hg HB.out); have GE137 := Aside0.mk (Zz.ge hg HB.out); replace HB := Aside0.mk (below_step (Zz.i HB.out) hb); clear hb hbox hg))
 (try simp only [Act.put, List.setIfInBounds_toArray, List.set_cons_zero, List.set_cons_succ])
 go_cut [3] (fun v3 wc => ∃ (kq : Nat) (x3_1 : Bool), v3 = .bool x3_1 ∧ Aside0 (batch_Check.j0 kq x3_1 a0_0 a0_1 a0_2 a0_3 l0_4 = some r) ∧ Aside0 (kq ≤ k) ∧ Aside0 (wc.heap[gb137]? = some (.cells #[.int .i64 a0_0, .int .i64 a0_1, .int .i64 a0_2, .int .i64 a0_3, (.slice A0_4 l0_4.length c0_4)] 41 (0, 0))) ∧ Aside0 (Below w.heap.size w wc))
 case first =>
  have H := HC2.out
  clear HC2
  obtain ⟨y138, hy138⟩ : ∃ y_ : List Int, y_ = (([a0_1, a0_2, a0_3] : List Int)) := ⟨_, rfl⟩
  replace H : ((batch_within.f y138).bind fun t141 => (if t141 = true then (if a0_1 ≤ 8 then (batch_Check.j0 k (decide ((l0_4.length : Int) ≤ 64)) a0_0 a0_1 a0_2 a0_3 l0_4) else (batch_Check.j0 k false a0_0 a0_1 a0_2 a0_3 l0_4)) else (batch_Check.j0 k false a0_0 a0_1 a0_2 a0_3 l0_4))) = some r := by first | (rw [hy138]; with_reducible exact H) | (have H2_ := (Option.bind_some _ _).symm.trans H; rw [hy138]; with_reducible exact H2_) | (have H2_ := (Option.bind_some _ _).symm.trans H; with_reducible exact H2_) | with_reducible exact H | (rw [hy138]; exact H) | exact H
  have Ny138 := Aside0.mk hy138
  clear hy138
  replace H := Option.bind_eq_some_iff.mp H
  obtain ⟨t141, A40, H⟩ := H
  try dsimp only at H
  have A4 := Aside0.mk A40
  clear A40
  by_cases c5 : t141 = true
  ·subst c5
   rw [if_pos rfl] at H
   by_cases c6 : a0_1 ≤ 8
   ·rw [if_pos c6] at H
    have c6b0 : decide (a0_1 ≤ 8) = true := decide_eq_true c6
    clear c6
    (first | rw [c6b0] | rw [c6b9] | (simp only [i64_w, i32_w]; rw [c6b0]) | skip)
    have H' := Aside0.mk H
    clear H
    have hcz7 := Zz.c5 BK137.out
    have hfz7 := blk_frozen BK137.out
    go_wp2_with (first | ((with_reducible refine gate_dst (N := 14) rfl ?_); (try (refine gate_guard (by rfl) ?_; dsimp only)); refine Kd.R_lit (Kd.int .i64) _ 3 ?hg (N := 14) ?hd (xs := ([a0_1, a0_2, a0_3] : List Int)) (inner := [.int .i64 a0_1, .int .i64 a0_2, .int .i64 a0_3]) (ok := fun _ => True) (okp := fun _ => True) ?hr ?hp (fun _ hk => hk) trivial (Below.refl _ _) (Nat.le_refl _) (by simp) ?_; (case hd => rfl); (case hg => rfl); (case hr => first | (go_simp; done) | (go_simp; rfl)); (case hp => exact (Reps.one (show Kd.M (Kd.int .i64) _ _ _ a0_1 [.int .i64 a0_1] from rfl) (Reps.one (show Kd.M (Kd.int .i64) _ _ _ a0_2 [.int .i64 a0_2] from rfl) (Reps.one (show Kd.M (Kd.int .i64) _ _ _ a0_3 [.int .i64 a0_3] from rfl) (Reps.none _ _))))); intro v139 w8 ho9 hb hg_ hnew_; clear hg_ hnew_; (first | rw [← Ny138.out] at ho9 | (simp only [Int.reduceToNat] at ho9; rw [← Ny138.out] at ho9)); have HO140 := Aside0.mk (Kd.R_lower ho9 (below_size (Zz.i HB.out))); replace BK137 := Aside0.mk (Zz.bb BK137.out hb); replace HB := Aside0.mk (below_step (Zz.i HB.out) hb); clear hb ho9; obtain ⟨Ao10, co10, eo10⟩ := Kd.R_slice HO140.out; subst eo10) | ((with_reducible refine gate_callee (f := 65) rfl ?_); refine goesL_ (some 15) rfl rfl Try.func65 (by kernel_rfl) rfl #[.slice Ao10 y138.length co10] rfl Zz.g ?_; (with_reducible refine (batch_within.calls _ _ y138 true _ ?side1 ?side2 A4.out).mono ?_); (case side1 => repeat (first | exact (Kd.R_reads' HO140.out).2.2 | (with_reducible refine Kd.C_alloc ?_ _) | (with_reducible refine Kd.C_drewN ?_ _) | (with_reducible refine Kd.C_drew ?_))); (case side2 => exact (Kd.R_reads' HO140.out).2.1); rintro e w' ⟨rfl, ⟨nd, rfl⟩⟩; refine ⟨_, rfl, ?_⟩; have hcz11 := Zz.c5 BK137.out; have hfz11 := blk_frozen BK137.out))
    go_meet
    case rel => exact ⟨_, (decide ((l0_4.length : Int) ≤ 64)), Zz.q, H', ⟨by first | omega | exact Nat.le_refl _⟩, ⟨Zz.p BK137.out⟩, ⟨Zz.i HB.out⟩⟩
   rw [if_neg c6] at H
   have c6b0 : decide (a0_1 ≤ 8) = false := decide_eq_false c6
   clear c6
   (first | rw [c6b0] | rw [c6b9] | (simp only [i64_w, i32_w]; rw [c6b0]) | skip)
   have H' := Aside0.mk H
   clear H
   have hcz12 := Zz.c5 BK137.out
   have hfz12 := blk_frozen BK137.out
   go_wp2_with (first | ((with_reducible refine gate_dst (N := 14) rfl ?_); (try (refine gate_guard (by rfl) ?_; dsimp only)); refine Kd.R_lit (Kd.int .i64) _ 3 ?hg (N := 14) ?hd (xs := ([a0_1, a0_2, a0_3] : List Int)) (inner := [.int .i64 a0_1, .int .i64 a0_2, .int .i64 a0_3]) (ok := fun _ => True) (okp := fun _ => True) ?hr ?hp (fun _ hk => hk) trivial (Below.refl _ _) (Nat.le_refl _) (by simp) ?_; (case hd => rfl); (case hg => rfl); (case hr => first | (go_simp; done) | (go_simp; rfl)); (case hp => exact (Reps.one (show Kd.M (Kd.int .i64) _ _ _ a0_1 [.int .i64 a0_1] from rfl) (Reps.one (show Kd.M (Kd.int .i64) _ _ _ a0_2 [.int .i64 a0_2] from rfl) (Reps.one (show Kd.M (Kd.int .i64) _ _ _ a0_3 [.int .i64 a0_3] from rfl) (Reps.none _ _))))); intro v139 w13 ho14 hb hg_ hnew_; clear hg_ hnew_; (first | rw [← Ny138.out] at ho14 | (simp only [Int.reduceToNat] at ho14; rw [← Ny138.out] at ho14)); have HO140 := Aside0.mk (Kd.R_lower ho14 (below_size (Zz.i HB.out))); replace BK137 := Aside0.mk (Zz.bb BK137.out hb); replace HB := Aside0.mk (below_step (Zz.i HB.out) hb); clear hb ho14; obtain ⟨Ao15, co15, eo15⟩ := Kd.R_slice HO140.out; subst eo15) | ((with_reducible refine gate_callee (f := 65) rfl ?_); refine goesL_ (some 15) rfl rfl Try.func65 (by kernel_rfl) rfl #[.slice Ao15 y138.length co15] rfl Zz.g ?_; (with_reducible refine (batch_within.calls _ _ y138 true _ ?side1 ?side2 A4.out).mono ?_); (case side1 => repeat (first | exact (Kd.R_reads' HO140.out).2.2 | (with_reducible refine Kd.C_alloc ?_ _) | (with_reducible refine Kd.C_drewN ?_ _) | (with_reducible refine Kd.C_drew ?_))); (case side2 => exact (Kd.R_reads' HO140.out).2.1); rintro e w' ⟨rfl, ⟨nd, rfl⟩⟩; refine ⟨_, rfl, ?_⟩; have hcz16 := Zz.c5 BK137.out; have hfz16 := blk_frozen BK137.out))
   go_meet
   case rel => exact ⟨_, (false), Zz.q, H', ⟨by first | omega | exact Nat.le_refl _⟩, ⟨Zz.p BK137.out⟩, ⟨Zz.i HB.out⟩⟩
  replace c5 := Bool.eq_false_iff.mpr c5
  subst c5
  rw [if_neg Bool.false_ne_true] at H
  have H' := Aside0.mk H
  clear H
  have hcz17 := Zz.c5 BK137.out
  have hfz17 := blk_frozen BK137.out
  go_wp2_with (first | ((with_reducible refine gate_dst (N := 14) rfl ?_); (try (refine gate_guard (by rfl) ?_; dsimp only)); refine Kd.R_lit (Kd.int .i64) _ 3 ?hg (N := 14) ?hd (xs := ([a0_1, a0_2, a0_3] : List Int)) (inner := [.int .i64 a0_1, .int .i64 a0_2, .int .i64 a0_3]) (ok := fun _ => True) (okp := fun _ => True) ?hr ?hp (fun _ hk => hk) trivial (Below.refl _ _) (Nat.le_refl _) (by simp) ?_; (case hd => rfl); (case hg => rfl); (case hr => first | (go_simp; done) | (go_simp; rfl)); (case hp => exact (Reps.one (show Kd.M (Kd.int .i64) _ _ _ a0_1 [.int .i64 a0_1] from rfl) (Reps.one (show Kd.M (Kd.int .i64) _ _ _ a0_2 [.int .i64 a0_2] from rfl) (Reps.one (show Kd.M (Kd.int .i64) _ _ _ a0_3 [.int .i64 a0_3] from rfl) (Reps.none _ _))))); intro v139 w18 ho19 hb hg_ hnew_; clear hg_ hnew_; (first | rw [← Ny138.out] at ho19 | (simp only [Int.reduceToNat] at ho19; rw [← Ny138.out] at ho19)); have HO140 := Aside0.mk (Kd.R_lower ho19 (below_size (Zz.i HB.out))); replace BK137 := Aside0.mk (Zz.bb BK137.out hb); replace HB := Aside0.mk (below_step (Zz.i HB.out) hb); clear hb ho19; obtain ⟨Ao20, co20, eo20⟩ := Kd.R_slice HO140.out; subst eo20) | ((with_reducible refine gate_callee (f := 65) rfl ?_); refine goesL_ (some 15) rfl rfl Try.func65 (by kernel_rfl) rfl #[.slice Ao20 y138.length co20] rfl Zz.g ?_; (with_reducible refine (batch_within.calls _ _ y138 false _ ?side1 ?side2 A4.out).mono ?_); (case side1 => repeat (first | exact (Kd.R_reads' HO140.out).2.2 | (with_reducible refine Kd.C_alloc ?_ _) | (with_reducible refine Kd.C_drewN ?_ _) | (with_reducible refine Kd.C_drew ?_))); (case side2 => exact (Kd.R_reads' HO140.out).2.1); rintro e w' ⟨rfl, ⟨nd, rfl⟩⟩; refine ⟨_, rfl, ?_⟩))
  go_meet
  case rel => exact ⟨_, (false), Zz.q, H', ⟨by first | omega | exact Nat.le_refl _⟩, ⟨Zz.p BK137.out⟩, ⟨Zz.i HB.out⟩⟩
 clear HC2
 (try clear p2);(try clear c5);(try clear c6);(try clear c6b0);(try clear hcz11);(try clear hcz12);(try clear hcz16);(try clear hcz17);(try clear hcz7);(try clear hfz11);(try clear hfz12);(try clear hfz16);(try clear hfz17);(try clear hfz7)
 obtain ⟨kq, x3_1, rfl, HA, HJ1, BK137, HB⟩ := hcut
 cases kq with
 | zero => exact absurd HA.out (by simp [batch_Check.j0])
 | succ kj1 =>
  have H := HA.out
  clear HA
  simp only [batch_Check.j0] at H
  have H' := Aside0.mk H
  clear H
  have hcz21 := Zz.c5 BK137.out
  have hfz21 := blk_frozen BK137.out
  go_wp2
  go_loopg [3, 30] kj1 (fun kq v3 v30 w' => ∃ (x3_2 : Bool) (x30_2 : Int), v3 = .bool x3_2 ∧ v30 = .int .i64 x30_2 ∧ Aside0 (batch_Check.l0 kq x3_2 l0_4 (l0_4.length : Int) x30_2 a0_0 a0_1 a0_2 a0_3 l0_4 = some r) ∧ Aside0 (kq ≤ kj1) ∧ Aside0 (w'.heap[gb137]? = some (.cells #[.int .i64 a0_0, .int .i64 a0_1, .int .i64 a0_2, .int .i64 a0_3, (.slice A0_4 l0_4.length c0_4)] 41 (0, 0))) ∧ Aside0 (Below w.heap.size w w'))
  case atStart => exact ⟨(x3_1), (0), Zz.q, Zz.q, H', ⟨Nat.le_refl _⟩, ⟨Zz.p BK137.out⟩, ⟨Zz.i HB.out⟩⟩
  case round =>
   clear H'
   (try clear p2);(try clear c5);(try clear c6);(try clear c6b0);(try clear hcz11);(try clear hcz12);(try clear hcz16);(try clear hcz17);(try clear hcz21);(try clear hcz7);(try clear hfz11);(try clear hfz12);(try clear hfz16);(try clear hfz17);(try clear hfz21);(try clear hfz7)
   obtain ⟨x3_2, x30_2, rfl, rfl, HA, HK2, BK137, HB⟩ := hrel
   cases gk with
   | zero => exact absurd HA.out (by simp [batch_Check.l0])
   | succ k2 =>
    have H := HA.out
    clear HA
    simp only [batch_Check.l0] at H
    by_cases c22 : x30_2 < (l0_4.length : Int)
    ·rw [if_pos c22] at H
     have c22b0 : decide (x30_2 < (l0_4.length : Int)) = true := decide_eq_true c22
     clear c22
     by_cases c23 : 0 ≤ x30_2
     ·rw [if_pos c23] at H
      have c23b0 : decide (0 ≤ x30_2) = true := decide_eq_true c23
      clear c23
      by_cases c24 : x30_2 < (l0_4.length : Int)
      ·rw [if_pos c24] at H
       have c24b0 : decide (x30_2 < (l0_4.length : Int)) = true := decide_eq_true c24
       clear c24
       by_cases c25 : x3_2 = true
       ·subst c25
        rw [if_pos rfl] at H
        replace H := Option.bind_eq_some_iff.mp H
        obtain ⟨t144, A260, H⟩ := H
        try dsimp only at H
        have A26 := Aside0.mk A260
        clear A260
        have H' := Aside0.mk H
        clear H
        have p142 : 0 ≤ (x30_2 : Int) := of_decide_eq_true (by first | (with_reducible assumption) | assumption)
        have q142 : x30_2 < (l0_4.length : Int) := of_decide_eq_true (by first | (with_reducible assumption) | assumption)
        obtain ⟨ad142, e142, hx142_0, hx142_1, hx142_2⟩ := at_T57 HR0_4.out x30_2 p142 q142
        cases e142
        replace hx142_0 := (HB.out.cell (World.block_lt_of_cell? w _ hx142_0)).trans hx142_0
        replace hx142_1 := (HB.out.cell (World.block_lt_of_cell? w _ hx142_1)).trans hx142_1
        replace hx142_2 := (HB.out.cell (World.block_lt_of_cell? w _ hx142_2)).trans hx142_2
        replace p142 := eq_true p142
        replace q142 := eq_true q142
        go_wp2_with (first | ((with_reducible refine gate_dst (N := 5) rfl ?_); (try (refine gate_guard (by rfl) ?_; dsimp only)); refine box_event ?hg (N := 5) ?hd (cs := #[.int .i64 0, .int .i64 0, .string (⟨#[]⟩ : ByteArray)]) (t := 57) ?hr ?_; (case hd => rfl); (case hg => rfl); (case hr => first | (go_simp; done) | (go_simp; rfl)); intro gb143 hg w27 hbox hb; have BK143 := Aside0.mk (hbox); have GW143 := Aside0.mk (Zz.ge hg HB.out); have GE143 := Aside0.mk (Zz.ge hg HB.out); replace HB := Aside0.mk (below_step (Zz.i HB.out) hb); have NB137_143 := Aside0.mk (Zz.nl hg BK137.out); have NB143_137 := Aside0.mk (Zz.ng hg BK137.out); replace BK137 := Aside0.mk (Zz.bb BK137.out hb); clear hb hbox hg; have hnb28 := NB143_137.out; have hnc28 := NB137_143.out; have hcz29 := Zz.c3 BK143.out; have hfz29 := blk_frozen BK143.out) | (go_at_call 57; (with_reducible refine (batch_may.calls ((rd_T57 l0_4 x30_2).f0) ((rd_T57 l0_4 x30_2).f1) ((rd_T57 l0_4 x30_2).f2) t144 _ A26.out).mono ?_); rintro e w30 ⟨rfl, hb⟩; have n0_ := Aside0.mk (blk_below (g := gb137) (o := .cells #[.int .i64 a0_0, .int .i64 a0_1, .int .i64 a0_2, .int .i64 a0_3, .slice (some ad142) l0_4.length c0_4] 41 (0, 0)) (by exact Zz.q3 BK137.out NB137_143.out) hb); have n1_ := Aside0.mk (blk_below (g := gb143) (o := .cells #[.int .i64 ((rd_T57 l0_4 x30_2).f0), .int .i64 ((rd_T57 l0_4 x30_2).f1), .string ((rd_T57 l0_4 x30_2).f2)] 57 (0, 0)) (by (with_reducible repeat (first | refine blk_drewN ?_ _ | refine blk_drew ?_ | refine blk_alloc ?_ _)); exact Zz.u3_0_2 BK143.out) hb); have n2_ := Aside0.mk (below_step (Zz.i HB.out) hb); clear BK137; clear BK143; clear HB; have BK137 := n0_; have BK143 := n1_; have HB := n2_; clear n0_ n1_ n2_; (try clear hb)))
        go_roundg k2
        case measure => have := HJ1.out; have := HK2.out; omega
        case rel => exact ⟨(t144), (wrap64 (x30_2 + 1)), Zz.q, Zz.q, H', ⟨by have := HJ1.out; have := HK2.out; omega⟩, ⟨Zz.p BK137.out⟩, ⟨Zz.i HB.out⟩⟩
       replace c25 := Bool.eq_false_iff.mpr c25
       subst c25
       rw [if_neg Bool.false_ne_true] at H
       have H' := Aside0.mk H
       clear H
       have p142 : 0 ≤ (x30_2 : Int) := of_decide_eq_true (by first | (with_reducible assumption) | assumption)
       have q142 : x30_2 < (l0_4.length : Int) := of_decide_eq_true (by first | (with_reducible assumption) | assumption)
       obtain ⟨ad142, e142, hx142_0, hx142_1, hx142_2⟩ := at_T57 HR0_4.out x30_2 p142 q142
       cases e142
       replace hx142_0 := (HB.out.cell (World.block_lt_of_cell? w _ hx142_0)).trans hx142_0
       replace hx142_1 := (HB.out.cell (World.block_lt_of_cell? w _ hx142_1)).trans hx142_1
       replace hx142_2 := (HB.out.cell (World.block_lt_of_cell? w _ hx142_2)).trans hx142_2
       replace p142 := eq_true p142
       replace q142 := eq_true q142
       go_wp2_with (first | ((with_reducible refine gate_dst (N := 5) rfl ?_); (try (refine gate_guard (by rfl) ?_; dsimp only)); refine box_event ?hg (N := 5) ?hd (cs := #[.int .i64 0, .int .i64 0, .string (⟨#[]⟩ : ByteArray)]) (t := 57) ?hr ?_; (case hd => rfl); (case hg => rfl); (case hr => first | (go_simp; done) | (go_simp; rfl)); intro gb143 hg w31 hbox hb; have BK143 := Aside0.mk (hbox); have GW143 := Aside0.mk (Zz.ge hg HB.out); have GE143 := Aside0.mk (Zz.ge hg HB.out); replace HB := Aside0.mk (below_step (Zz.i HB.out) hb); have NB137_143 := Aside0.mk (Zz.nl hg BK137.out); have NB143_137 := Aside0.mk (Zz.ng hg BK137.out); replace BK137 := Aside0.mk (Zz.bb BK137.out hb); clear hb hbox hg; have hnb32 := NB143_137.out; have hnc32 := NB137_143.out; have hcz33 := Zz.c3 BK143.out; have hfz33 := blk_frozen BK143.out))
       go_roundg k2
       case measure => have := HJ1.out; have := HK2.out; omega
       case rel => exact ⟨(false), (wrap64 (x30_2 + 1)), Zz.q, Zz.q, H', ⟨by have := HJ1.out; have := HK2.out; omega⟩, ⟨by exact Zz.q3 BK137.out NB137_143.out⟩, ⟨Zz.i HB.out⟩⟩
      rw [if_neg c24] at H
      exact absurd H (by simp)
     rw [if_neg c23] at H
     exact absurd H (by simp)
    rw [if_neg c22] at H
    have c22b0 : decide (x30_2 < (l0_4.length : Int)) = false := decide_eq_false c22
    clear c22
    have HC34 := Aside0.mk H
    clear H
    go_upto_region 7 with (fail)
    go_cut [6] (fun v6 wc => ∃ (kq : Nat) (x6_33 : Bool), v6 = .bool x6_33 ∧ Aside0 (batch_Check.j2 kq x3_2 x6_33 a0_0 a0_1 a0_2 a0_3 l0_4 = some r) ∧ Aside0 (kq ≤ k2) ∧ Aside0 (wc.heap[gb137]? = some (.cells #[.int .i64 a0_0, .int .i64 a0_1, .int .i64 a0_2, .int .i64 a0_3, (.slice A0_4 l0_4.length c0_4)] 41 (0, 0))) ∧ Aside0 (Below w.heap.size w wc))
    case first =>
     have H := HC34.out
     clear HC34
     by_cases c35 : a0_1 = 0
     ·rw [if_pos c35] at H
      obtain ⟨c35b0, c35b1⟩ := Zr.y c35
      clear c35
      (first | rw [c35b0] | rw [c35b9] | (simp only [i64_w, i32_w]; rw [c35b0]) | skip)
      by_cases c36 : a0_2 = 0
      ·rw [if_pos c36] at H
       obtain ⟨c36b0, c36b1⟩ := Zr.y c36
       clear c36
       have H' := Aside0.mk H
       clear H
       have hcz37 := Zz.c5 BK137.out
       have hfz37 := blk_frozen BK137.out
       go_wp2
       go_meet
       case rel => exact ⟨_, ((a0_3 == 0)), Zz.q, H', ⟨by have := HJ1.out; have := HK2.out; first | omega | exact Nat.le_refl _⟩, ⟨Zz.p BK137.out⟩, ⟨Zz.i HB.out⟩⟩
      rw [if_neg c36] at H
      obtain ⟨c36b0, c36b1⟩ := Zr.n c36
      have H' := Aside0.mk H
      clear H
      have hcz38 := Zz.c5 BK137.out
      have hfz38 := blk_frozen BK137.out
      go_wp2
      go_meet
      case rel => exact ⟨_, (false), Zz.q, H', ⟨by have := HJ1.out; have := HK2.out; first | omega | exact Nat.le_refl _⟩, ⟨Zz.p BK137.out⟩, ⟨Zz.i HB.out⟩⟩
     rw [if_neg c35] at H
     obtain ⟨c35b0, c35b1⟩ := Zr.n c35
     (first | rw [c35b0] | rw [c35b9] | (simp only [i64_w, i32_w]; rw [c35b0]) | skip)
     have H' := Aside0.mk H
     clear H
     have hcz39 := Zz.c5 BK137.out
     have hfz39 := blk_frozen BK137.out
     go_wp2
     go_meet
     case rel => exact ⟨_, (false), Zz.q, H', ⟨by have := HJ1.out; have := HK2.out; first | omega | exact Nat.le_refl _⟩, ⟨Zz.p BK137.out⟩, ⟨Zz.i HB.out⟩⟩
    clear HC34
    (try clear p1);(try clear q1);(try clear hx1);(try clear c2);(try clear p2);(try clear c3);(try clear c5);(try clear c6);(try clear c6b0);(try clear p6);(try clear p14);(try clear q14);(try clear hx14);(try clear c22);(try clear c22b0);(try clear c23);(try clear c23b0);(try clear c24);(try clear c24b0);(try clear c25);(try clear c28);(try clear c32);(try clear c35);(try clear c35b0);(try clear c35b1);(try clear c36);(try clear c36b0);(try clear c36b1);(try clear hcz11);(try clear hcz12);(try clear hcz16);(try clear hcz17);(try clear hcz21);(try clear hcz29);(try clear hcz33);(try clear hcz37);(try clear hcz38);(try clear hcz39);(try clear hcz7);(try clear hfz11);(try clear hfz12);(try clear hfz16);(try clear hfz17);(try clear hfz21);(try clear hfz29);(try clear hfz33);(try clear hfz37);(try clear hfz38);(try clear hfz39);(try clear hfz7);(try clear hx142_0);(try clear hx142_1);(try clear hx142_2);(try clear p142);(try clear q142)
    obtain ⟨kq, x6_33, rfl, HA, HJ33, BK137, HB⟩ := hcut
    cases kq with
    | zero => exact absurd HA.out (by simp [batch_Check.j2])
    | succ kj33 =>
     have H := HA.out
     clear HA
     simp only [batch_Check.j2] at H
     have HC40 := Aside0.mk H
     clear H
     go_upto_region 8 with (fail)
     go_cut [7] (fun v7 wc => ∃ (kq : Nat) (x7_39 : Bool), v7 = .bool x7_39 ∧ Aside0 (batch_Check.j3 kq x3_2 x6_33 x7_39 a0_0 a0_1 a0_2 a0_3 l0_4 = some r) ∧ Aside0 (kq ≤ kj33) ∧ Aside0 (wc.heap[gb137]? = some (.cells #[.int .i64 a0_0, .int .i64 a0_1, .int .i64 a0_2, .int .i64 a0_3, (.slice A0_4 l0_4.length c0_4)] 41 (0, 0))) ∧ Aside0 (Below w.heap.size w wc))
     case first =>
      have H := HC40.out
      clear HC40
      by_cases c41 : a0_1 > 0
      ·rw [if_pos c41] at H
       have c41b0 : decide (0 < a0_1) = true := decide_eq_true c41
       clear c41
       (first | rw [c41b0] | rw [c41b9] | (simp only [i64_w, i32_w]; rw [c41b0]) | skip)
       have H' := Aside0.mk H
       clear H
       have hcz42 := Zz.c5 BK137.out
       have hfz42 := blk_frozen BK137.out
       go_wp2
       go_meet
       case rel => exact ⟨_, (decide (a0_2 > 0)), Zz.q, H', ⟨by have := HJ1.out; have := HK2.out; have := HJ33.out; first | omega | exact Nat.le_refl _⟩, ⟨Zz.p BK137.out⟩, ⟨Zz.i HB.out⟩⟩
      rw [if_neg c41] at H
      have c41b0 : decide (0 < a0_1) = false := decide_eq_false c41
      clear c41
      (first | rw [c41b0] | rw [c41b9] | (simp only [i64_w, i32_w]; rw [c41b0]) | skip)
      have H' := Aside0.mk H
      clear H
      have hcz43 := Zz.c5 BK137.out
      have hfz43 := blk_frozen BK137.out
      go_wp2
      go_meet
      case rel => exact ⟨_, (false), Zz.q, H', ⟨by have := HJ1.out; have := HK2.out; have := HJ33.out; first | omega | exact Nat.le_refl _⟩, ⟨Zz.p BK137.out⟩, ⟨Zz.i HB.out⟩⟩
     clear HC40
     (try clear p1);(try clear q1);(try clear hx1);(try clear c2);(try clear p2);(try clear c3);(try clear c4);(try clear c5);(try clear c6);(try clear c6b0);(try clear p6);(try clear p14);(try clear q14);(try clear hx14);(try clear c22);(try clear c22b0);(try clear c23);(try clear c23b0);(try clear c24);(try clear c24b0);(try clear c25);(try clear c28);(try clear c32);(try clear c35);(try clear c35b0);(try clear c35b1);(try clear c36);(try clear c36b0);(try clear c36b1);(try clear c41);(try clear c41b0);(try clear hcz11);(try clear hcz12);(try clear hcz16);(try clear hcz17);(try clear hcz21);(try clear hcz29);(try clear hcz33);(try clear hcz37);(try clear hcz38);(try clear hcz39);(try clear hcz42);(try clear hcz43);(try clear hcz7);(try clear hfz11);(try clear hfz12);(try clear hfz16);(try clear hfz17);(try clear hfz21);(try clear hfz29);(try clear hfz33);(try clear hfz37);(try clear hfz38);(try clear hfz39);(try clear hfz42);(try clear hfz43);(try clear hfz7);(try clear hx142_0);(try clear hx142_1);(try clear hx142_2);(try clear p142);(try clear q142)
     obtain ⟨kq, x7_39, rfl, HA, HJ39, BK137, HB⟩ := hcut
     cases kq with
     | zero => exact absurd HA.out (by simp [batch_Check.j3])
     | succ kj39 =>
      have H := HA.out
      clear HA
      simp only [batch_Check.j3] at H
      by_cases c44 : a0_0 = 1
      ·rw [if_pos c44] at H
       obtain ⟨c44b0, c44b1⟩ := Zr.y c44
       clear c44
       by_cases c45 : x3_2 = true
       ·subst c45
        rw [if_pos rfl] at H
        by_cases c46 : (l0_4.length : Int) > 0
        ·rw [if_pos c46] at H
         have c46b0 : decide (0 < (l0_4.length : Int)) = true := decide_eq_true c46
         have c46b1 : decide (0 < l0_4.length) = true := decide_eq_true (by omega)
         clear c46
         by_cases c47 : x6_33 = true
         ·subst c47
          rw [if_pos rfl] at H
          obtain rfl := Option.some.inj H
          have hcz48 := Zz.c5 BK137.out
          have hfz48 := blk_frozen BK137.out
          go_wp2
          go_ret
          exact ⟨Zr.e, Zz.i HB.out⟩
         replace c47 := Bool.eq_false_iff.mpr c47
         subst c47
         rw [if_neg Bool.false_ne_true] at H
         by_cases c49 : x7_39 = true
         ·subst c49
          rw [if_pos rfl] at H
          obtain rfl := Option.some.inj H
          have hcz50 := Zz.c5 BK137.out
          have hfz50 := blk_frozen BK137.out
          go_wp2
          go_ret
          exact ⟨Zr.e, Zz.i HB.out⟩
         replace c49 := Bool.eq_false_iff.mpr c49
         subst c49
         rw [if_neg Bool.false_ne_true] at H
         obtain rfl := Option.some.inj H
         have hcz51 := Zz.c5 BK137.out
         have hfz51 := blk_frozen BK137.out
         go_wp2
         go_ret
         exact ⟨Zr.e, Zz.i HB.out⟩
        rw [if_neg c46] at H
        have c46b0 : decide (0 < (l0_4.length : Int)) = false := decide_eq_false c46
        have c46b1 : decide (0 < l0_4.length) = false := decide_eq_false (by omega)
        clear c46
        obtain rfl := Option.some.inj H
        have hcz52 := Zz.c5 BK137.out
        have hfz52 := blk_frozen BK137.out
        go_wp2
        go_ret
        exact ⟨Zr.e, Zz.i HB.out⟩
       replace c45 := Bool.eq_false_iff.mpr c45
       subst c45
       rw [if_neg Bool.false_ne_true] at H
       obtain rfl := Option.some.inj H
       have hcz53 := Zz.c5 BK137.out
       have hfz53 := blk_frozen BK137.out
       go_wp2
       go_ret
       exact ⟨Zr.e, Zz.i HB.out⟩
      rw [if_neg c44] at H
      obtain ⟨c44b0, c44b1⟩ := Zr.n c44
      by_cases c54 : a0_0 = 2
      ·rw [if_pos c54] at H
       obtain ⟨c54b0, c54b1⟩ := Zr.y c54
       clear c54
       by_cases c55 : x3_2 = true
       ·subst c55
        rw [if_pos rfl] at H
        by_cases c56 : (l0_4.length : Int) > 0
        ·rw [if_pos c56] at H
         have c56b0 : decide (0 < (l0_4.length : Int)) = true := decide_eq_true c56
         have c56b1 : decide (0 < l0_4.length) = true := decide_eq_true (by omega)
         clear c56
         by_cases c57 : x7_39 = true
         ·subst c57
          rw [if_pos rfl] at H
          obtain rfl := Option.some.inj H
          have hcz58 := Zz.c5 BK137.out
          have hfz58 := blk_frozen BK137.out
          go_wp2
          go_ret
          exact ⟨Zr.e, Zz.i HB.out⟩
         replace c57 := Bool.eq_false_iff.mpr c57
         subst c57
         rw [if_neg Bool.false_ne_true] at H
         obtain rfl := Option.some.inj H
         have hcz59 := Zz.c5 BK137.out
         have hfz59 := blk_frozen BK137.out
         go_wp2
         go_ret
         exact ⟨Zr.e, Zz.i HB.out⟩
        rw [if_neg c56] at H
        have c56b0 : decide (0 < (l0_4.length : Int)) = false := decide_eq_false c56
        have c56b1 : decide (0 < l0_4.length) = false := decide_eq_false (by omega)
        clear c56
        obtain rfl := Option.some.inj H
        have hcz60 := Zz.c5 BK137.out
        have hfz60 := blk_frozen BK137.out
        go_wp2
        go_ret
        exact ⟨Zr.e, Zz.i HB.out⟩
       replace c55 := Bool.eq_false_iff.mpr c55
       subst c55
       rw [if_neg Bool.false_ne_true] at H
       obtain rfl := Option.some.inj H
       have hcz61 := Zz.c5 BK137.out
       have hfz61 := blk_frozen BK137.out
       go_wp2
       go_ret
       exact ⟨Zr.e, Zz.i HB.out⟩
      rw [if_neg c54] at H
      obtain ⟨c54b0, c54b1⟩ := Zr.n c54
      have HC62 := Aside0.mk H
      clear H
      have hcz63 := Zz.c5 BK137.out
      have hfz63 := blk_frozen BK137.out
      go_upto_if 90 with (fail)
      go_cut [90] (fun v90 wc => ∃ (kq : Nat) (x90_61 : Bool), v90 = .bool x90_61 ∧ Aside0 (batch_Check.j4 kq x3_2 x7_39 x90_61 a0_0 a0_1 a0_2 a0_3 l0_4 = some r) ∧ Aside0 (kq ≤ kj39) ∧ Aside0 (wc.heap[gb137]? = some (.cells #[.int .i64 a0_0, .int .i64 a0_1, .int .i64 a0_2, .int .i64 a0_3, (.slice A0_4 l0_4.length c0_4)] 41 (0, 0))) ∧ Aside0 (Below w.heap.size w wc))
      case first =>
       have H := HC62.out
       clear HC62
       by_cases c64 : a0_0 = 3
       ·rw [if_pos c64] at H
        obtain ⟨c64b0, c64b1⟩ := Zr.y c64
        clear c64
        (first | rw [c64b0] | rw [c64b9] | (simp only [i64_w, i32_w]; rw [c64b0]) | skip)
        have H' := Aside0.mk H
        clear H
        go_wp2
        go_meet
        case rel => exact ⟨_, ((a0_0 == 3)), Zz.q, H', ⟨by have := HJ1.out; have := HK2.out; have := HJ33.out; have := HJ39.out; first | omega | exact Nat.le_refl _⟩, ⟨Zz.p BK137.out⟩, ⟨Zz.i HB.out⟩⟩
       rw [if_neg c64] at H
       obtain ⟨c64b0, c64b1⟩ := Zr.n c64
       (first | rw [c64b0] | rw [c64b9] | (simp only [i64_w, i32_w]; rw [c64b0]) | skip)
       have H' := Aside0.mk H
       clear H
       go_wp2
       go_meet
       case rel => exact ⟨_, ((a0_0 == 4)), Zz.q, H', ⟨by have := HJ1.out; have := HK2.out; have := HJ33.out; have := HJ39.out; first | omega | exact Nat.le_refl _⟩, ⟨Zz.p BK137.out⟩, ⟨Zz.i HB.out⟩⟩
      clear HC62
      (try clear p1);(try clear q1);(try clear hx1);(try clear c2);(try clear p2);(try clear c3);(try clear c4);(try clear c5);(try clear c6);(try clear c6b0);(try clear p6);(try clear p14);(try clear q14);(try clear hx14);(try clear c22);(try clear c22b0);(try clear c23);(try clear c23b0);(try clear c24);(try clear c24b0);(try clear c25);(try clear c28);(try clear c32);(try clear c35);(try clear c35b0);(try clear c35b1);(try clear c36);(try clear c36b0);(try clear c36b1);(try clear c41);(try clear c41b0);(try clear c44);(try clear c44b0);(try clear c44b1);(try clear c45);(try clear c46);(try clear c46b0);(try clear c46b1);(try clear c47);(try clear c49);(try clear c54);(try clear c54b0);(try clear c54b1);(try clear c55);(try clear c56);(try clear c56b0);(try clear c56b1);(try clear c57);(try clear c64);(try clear c64b0);(try clear c64b1);(try clear hcz11);(try clear hcz12);(try clear hcz16);(try clear hcz17);(try clear hcz21);(try clear hcz29);(try clear hcz33);(try clear hcz37);(try clear hcz38);(try clear hcz39);(try clear hcz42);(try clear hcz43);(try clear hcz48);(try clear hcz50);(try clear hcz51);(try clear hcz52);(try clear hcz53);(try clear hcz58);(try clear hcz59);(try clear hcz60);(try clear hcz61);(try clear hcz63);(try clear hcz7);(try clear hfz11);(try clear hfz12);(try clear hfz16);(try clear hfz17);(try clear hfz21);(try clear hfz29);(try clear hfz33);(try clear hfz37);(try clear hfz38);(try clear hfz39);(try clear hfz42);(try clear hfz43);(try clear hfz48);(try clear hfz50);(try clear hfz51);(try clear hfz52);(try clear hfz53);(try clear hfz58);(try clear hfz59);(try clear hfz60);(try clear hfz61);(try clear hfz63);(try clear hfz7);(try clear hx142_0);(try clear hx142_1);(try clear hx142_2);(try clear p142);(try clear q142)
      obtain ⟨kq, x90_61, rfl, HA, HJ61, BK137, HB⟩ := hcut
      cases kq with
      | zero => exact absurd HA.out (by simp [batch_Check.j4])
      | succ kj61 =>
       have H := HA.out
       clear HA
       simp only [batch_Check.j4] at H
       by_cases c65 : x90_61 = true
       ·subst c65
        rw [if_pos rfl] at H
        by_cases c66 : x3_2 = true
        ·subst c66
         rw [if_pos rfl] at H
         by_cases c67 : (l0_4.length : Int) = 0
         ·rw [if_pos c67] at H
          obtain ⟨c67b0, c67b1⟩ := Zr.y c67
          clear c67
          by_cases c68 : x7_39 = true
          ·subst c68
           rw [if_pos rfl] at H
           by_cases c69 : a0_3 = 0
           ·rw [if_pos c69] at H
            obtain ⟨c69b0, c69b1⟩ := Zr.y c69
            clear c69
            obtain rfl := Option.some.inj H
            have hcz70 := Zz.c5 BK137.out
            have hfz70 := blk_frozen BK137.out
            go_wp2
            go_ret
            exact ⟨Zr.e, Zz.i HB.out⟩
           rw [if_neg c69] at H
           obtain ⟨c69b0, c69b1⟩ := Zr.n c69
           obtain rfl := Option.some.inj H
           have hcz71 := Zz.c5 BK137.out
           have hfz71 := blk_frozen BK137.out
           go_wp2
           go_ret
           exact ⟨Zr.e, Zz.i HB.out⟩
          replace c68 := Bool.eq_false_iff.mpr c68
          subst c68
          rw [if_neg Bool.false_ne_true] at H
          obtain rfl := Option.some.inj H
          have hcz72 := Zz.c5 BK137.out
          have hfz72 := blk_frozen BK137.out
          go_wp2
          go_ret
          exact ⟨Zr.e, Zz.i HB.out⟩
         rw [if_neg c67] at H
         obtain ⟨c67b0, c67b1⟩ := Zr.n c67
         have c67b2 : ¬ (l0_4 = []) := fun h_ => c67 (by rw [h_]; rfl)
         obtain rfl := Option.some.inj H
         have hcz73 := Zz.c5 BK137.out
         have hfz73 := blk_frozen BK137.out
         go_wp2
         go_ret
         exact ⟨Zr.e, Zz.i HB.out⟩
        replace c66 := Bool.eq_false_iff.mpr c66
        subst c66
        rw [if_neg Bool.false_ne_true] at H
        obtain rfl := Option.some.inj H
        go_wp2
        go_ret
        exact ⟨Zr.e, Zz.i HB.out⟩
       replace c65 := Bool.eq_false_iff.mpr c65
       subst c65
       rw [if_neg Bool.false_ne_true] at H
       obtain rfl := Option.some.inj H
       go_wp2
       go_ret
       exact ⟨Zr.e, Zz.i HB.out⟩

end Go.Proofs.Ytikbpjdgihheiaa.P
end
section
namespace Go.Proofs.Ytikbpjdgihheiaa.P
open Go.RowKit Go.Proofs.YtikbpjdgihheiaaW.PrintWords Go.Proofs.YtikbpjdgihheiaaW.PrintLast Go.Proofs.YtikbpjdgihheiaaW.PrintMore
attribute [local go_sem] max2_int min2_int max_two min_two max_three min_three max_four min_four   -- for this text's walks alone
attribute [local go_sem ↓] Kp.LDAsk_in
attribute [local go_sem] Kp.LDAsk_run
set_option linter.unusedVariables false
set_option linter.unusedSimpArgs false

/-! ### batch_Encode: function 40 -/
theorem C_new_ints {W : World} {g : Nat} (xs : List Int) (cs : Array Value) (t : TypeId) (hl : xs.length ≤ 9223372036854775807) (hb : W.heap[g]? = some (.cells cs t (0, 0))) (hcs : cs = (xs.map fun n => Value.int .i64 n).toArray) : Kd.C (Kd.int .i64) W (some ⟨g, 0, none⟩) xs.length xs := by
  subst hcs
  refine ⟨rfl, hl, fun _ => ⟨_, rfl, fun j p hp => ⟨[.int .i64 p], rfl, rfl, fun i u hu => ?_⟩⟩⟩
  have hi : i < 1 := by
    rcases Nat.lt_or_ge i 1 with h | h
    · exact h
    · rw [List.getElem?_eq_none (by simpa using h)] at hu; cases hu
  obtain rfl : i = 0 := by omega
  obtain rfl : Value.int .i64 p = u := by simpa using hu
  have := blk_cell hb j
  have e : ((⟨g, 0, none⟩ : Addr).add (j * (Kd.int .i64).sz + 0)) = ⟨g, j, none⟩ := by
    show (⟨g, 0, none⟩ : Addr).add (j * 1 + 0) = _
    unfold Addr.add
    by_cases hj : j = 0 <;> simp [hj]
  rw [e, this]
  simp [hp]
/-- The records' bytes, one behind the other. -/
def batch_Encode.g : List S57 → Option (List UInt8)
  | [] => some []
  | x :: r => (batch_PutRecord.f x.f0 x.f1 x.f2).bind fun t => (batch_Encode.g r).bind fun u => some (t.data.toList ++ u)
def batch_Encode.f (k : Nat) (a0_0 : Int) (a0_1 : Int) (a0_2 : Int) (a0_3 : Int) (l0_4 : List S57) : Option (ByteArray × Int) :=
  (batch_Check.f k a0_0 a0_1 a0_2 a0_3 l0_4).bind fun e => if e = 0 then ((varint_PutAll.f [a0_0, a0_1, a0_2, a0_3, (l0_4.length : Int)]).bind fun h => (batch_Encode.g l0_4).bind fun u => if h.size + u.length ≤ 140737488355328 then some (Vm.bs (h.data.toList ++ u), 0) else none) else some ((⟨#[]⟩ : ByteArray), e)
theorem batch_Encode.g_step (x : S57) (r : List S57) (u : List UInt8) (h : batch_Encode.g (x :: r) = some u) : ∃ t v, batch_PutRecord.f x.f0 x.f1 x.f2 = some t ∧ batch_Encode.g r = some v ∧ u = t.data.toList ++ v := by
  obtain ⟨t, ht, h⟩ := Option.bind_eq_some_iff.mp h
  obtain ⟨v, hv, h⟩ := Option.bind_eq_some_iff.mp h
  exact ⟨t, v, ht, hv, (Option.some.inj h).symm⟩
set_option maxHeartbeats 8000000 in
set_option maxRecDepth 100000 in
theorem batch_Encode.calls (k : Nat) (a0_0 : Int) (a0_1 : Int) (a0_2 : Int) (a0_3 : Int) (A0_4 : Option Addr) (c0_4 : Nat) (l0_4 : List S57) (r1 : ByteArray) (r2 : Int) (w : World) (hr0_4 : Kd.C k57 w A0_4 l0_4.length l0_4) (hc0_4 : l0_4.length ≤ c0_4) (h : batch_Encode.f k a0_0 a0_1 a0_2 a0_3 l0_4 = some (r1, r2)) :
    Calls Try.prog 40 #[.agg #[.int .i64 a0_0, .int .i64 a0_1, .int .i64 a0_2, .int .i64 a0_3, .slice A0_4 l0_4.length c0_4]] w fun e w' => e = .returned (.tuple #[.string r1, .int .i64 r2]) ∧ Below w.heap.size w w' := by
 have huB := Try.underlying41
 have huR := Try.underlying57
 have HR := Aside0.mk hr0_4
 have HC := Aside0.mk hc0_4
 have HB0 := Aside0.mk (Below.refl w.heap.size w)
 have hlb := hr0_4.2.1
 clear hr0_4 hc0_4
 obtain ⟨ec, hec, h⟩ := Option.bind_eq_some_iff.mp h
 have A1 := Aside0.mk hec
 clear hec
 have H := Aside0.mk h
 clear h
 by_cases hz : ec = 0
 case neg =>
  have hzb : (ec != 0) = true := bne_iff_ne.mpr hz
  have H0 := H.out
  rw [if_neg hz] at H0
  have HE1 := Aside0.mk (Prod.mk.inj (Option.some.inj H0)).1
  have HE2 := Aside0.mk (Prod.mk.inj (Option.some.inj H0)).2
  clear H H0 hz
  go_enter Try.func40, Try.ntmps40
  go_wp2_with (first | ((with_reducible refine gate_dst (N := 1) rfl ?_); refine box_event ?hg (N := 1) ?hd (cs := #[.int .i64 a0_0, .int .i64 a0_1, .int .i64 a0_2, .int .i64 a0_3, .slice A0_4 l0_4.length c0_4]) (t := 41) ?hr ?_; (case hd => rfl); (case hg => rfl); (case hr => first | (go_simp; done) | (go_simp; rfl)); intro gb hg w1 hbox hb; have HB1 := Aside0.mk (below_step HB0.out hb); have BK := Aside0.mk hbox; have GW : w.heap.size ≤ gb := (by rw [hg]; exact Nat.le_refl _); clear hb hbox hg; have hc0 : w1.cell? ⟨gb, 0, none⟩ = some (.int .i64 a0_0) := (blk_cell BK.out 0).trans rfl; have hc1 : w1.cell? ⟨gb, 1, none⟩ = some (.int .i64 a0_1) := (blk_cell BK.out 1).trans rfl; have hc2 : w1.cell? ⟨gb, 2, none⟩ = some (.int .i64 a0_2) := (blk_cell BK.out 2).trans rfl; have hc3 : w1.cell? ⟨gb, 3, none⟩ = some (.int .i64 a0_3) := (blk_cell BK.out 3).trans rfl; have hc4 : w1.cell? ⟨gb, 4, none⟩ = some (.slice A0_4 l0_4.length c0_4) := (blk_cell BK.out 4).trans rfl) | (go_at_call 60; go_loud (refine (batch_Check.calls k a0_0 a0_1 a0_2 a0_3 _ _ l0_4 ec _ (Kd.C_below HR.out HB1.out) HC.out A1.out).mono ?_; rintro e w2 ⟨rfl, hb⟩; have HB2 := Aside0.mk (below_step HB1.out hb); have BK2 := Aside0.mk (blk_below BK.out hb); clear hc0 hc1 hc2 hc3 hc4 BK HB1 hb); have hc0 : ∀ o, (w2.alloc o).cell? ⟨gb, 0, none⟩ = some (.int .i64 a0_0) := fun o => (blk_cell (blk_alloc BK2.out o) 0).trans rfl; have hc1 : ∀ o, (w2.alloc o).cell? ⟨gb, 1, none⟩ = some (.int .i64 a0_1) := fun o => (blk_cell (blk_alloc BK2.out o) 1).trans rfl; have hc2 : ∀ o, (w2.alloc o).cell? ⟨gb, 2, none⟩ = some (.int .i64 a0_2) := fun o => (blk_cell (blk_alloc BK2.out o) 2).trans rfl; have hc3 : ∀ o, (w2.alloc o).cell? ⟨gb, 3, none⟩ = some (.int .i64 a0_3) := fun o => (blk_cell (blk_alloc BK2.out o) 3).trans rfl; have hc4 : ∀ o, (w2.alloc o).cell? ⟨gb, 4, none⟩ = some (.slice A0_4 l0_4.length c0_4) := fun o => (blk_cell (blk_alloc BK2.out o) 4).trans rfl; have GB : gb < w2.heap.size := blk_lt BK2.out))
  go_ret2
  refine ⟨?_, HB2.out⟩
  rw [← HE1.out, ← HE2.out]
  rfl
 have hzb : (ec != 0) = false := bne_eq_false_iff_eq.mpr hz
 subst hz
 have H0 := H.out
 rw [if_pos rfl] at H0
 obtain ⟨hd, hhd, H0⟩ := Option.bind_eq_some_iff.mp H0
 obtain ⟨u, hu, H0⟩ := Option.bind_eq_some_iff.mp H0
 have A2 := Aside0.mk hhd
 split at H0
 case isFalse => cases H0
 rename_i hlen
 have HL := Aside0.mk hlen
 have A3 := Aside0.mk hu
 have HE1 := Aside0.mk (Prod.mk.inj (Option.some.inj H0)).1
 have HE2 := Aside0.mk (Prod.mk.inj (Option.some.inj H0)).2
 clear H hhd hu H0 hlen
 go_enter Try.func40, Try.ntmps40
 go_wp2_with (first | ((with_reducible refine gate_dst (N := 1) rfl ?_); refine box_event ?hg (N := 1) ?hd (cs := #[.int .i64 a0_0, .int .i64 a0_1, .int .i64 a0_2, .int .i64 a0_3, .slice A0_4 l0_4.length c0_4]) (t := 41) ?hr ?_; (case hd => rfl); (case hg => rfl); (case hr => first | (go_simp; done) | (go_simp; rfl)); intro gb hg w1 hbox hb; have HB1 := Aside0.mk (below_step HB0.out hb); have BK := Aside0.mk hbox; have GW : w.heap.size ≤ gb := (by rw [hg]; exact Nat.le_refl _); clear hb hbox hg; have hc0 : w1.cell? ⟨gb, 0, none⟩ = some (.int .i64 a0_0) := (blk_cell BK.out 0).trans rfl; have hc1 : w1.cell? ⟨gb, 1, none⟩ = some (.int .i64 a0_1) := (blk_cell BK.out 1).trans rfl; have hc2 : w1.cell? ⟨gb, 2, none⟩ = some (.int .i64 a0_2) := (blk_cell BK.out 2).trans rfl; have hc3 : w1.cell? ⟨gb, 3, none⟩ = some (.int .i64 a0_3) := (blk_cell BK.out 3).trans rfl; have hc4 : w1.cell? ⟨gb, 4, none⟩ = some (.slice A0_4 l0_4.length c0_4) := (blk_cell BK.out 4).trans rfl) | (go_at_call 60; go_loud (refine (batch_Check.calls k a0_0 a0_1 a0_2 a0_3 _ _ l0_4 0 _ (Kd.C_below HR.out HB1.out) HC.out A1.out).mono ?_; rintro e w2 ⟨rfl, hb⟩; have HB2 := Aside0.mk (below_step HB1.out hb); have BK2 := Aside0.mk (blk_below BK.out hb); clear hc0 hc1 hc2 hc3 hc4 BK HB1 hb); have hc0 : ∀ o, (w2.alloc o).cell? ⟨gb, 0, none⟩ = some (.int .i64 a0_0) := fun o => (blk_cell (blk_alloc BK2.out o) 0).trans rfl; have hc1 : ∀ o, (w2.alloc o).cell? ⟨gb, 1, none⟩ = some (.int .i64 a0_1) := fun o => (blk_cell (blk_alloc BK2.out o) 1).trans rfl; have hc2 : ∀ o, (w2.alloc o).cell? ⟨gb, 2, none⟩ = some (.int .i64 a0_2) := fun o => (blk_cell (blk_alloc BK2.out o) 2).trans rfl; have hc3 : ∀ o, (w2.alloc o).cell? ⟨gb, 3, none⟩ = some (.int .i64 a0_3) := fun o => (blk_cell (blk_alloc BK2.out o) 3).trans rfl; have hc4 : ∀ o, (w2.alloc o).cell? ⟨gb, 4, none⟩ = some (.slice A0_4 l0_4.length c0_4) := fun o => (blk_cell (blk_alloc BK2.out o) 4).trans rfl; have GB : gb < w2.heap.size := blk_lt BK2.out))
 generalize hL : [a0_0, a0_1, a0_2, a0_3, (l0_4.length : Int)] = L at A2
 have hL5 : L.length = 5 := by rw [← hL]; rfl
 have HCn : Kd.C (Kd.int .i64) ((w2.alloc (.cells #[.pointer none, .slice none 0 0] 64)).alloc (.cells #[.int .i64 a0_0, .int .i64 a0_1, .int .i64 a0_2, .int .i64 a0_3, .int .i64 (l0_4.length : Int)] 3)) (some ⟨w2.heap.size + 1, 0, none⟩) L.length L := C_new_ints L _ 3 (by omega) (by first | exact blk_new _ _ | (have := blk_new (w2.alloc (.cells #[.pointer none, .slice none 0 0] 64)) (.cells #[.int .i64 a0_0, .int .i64 a0_1, .int .i64 a0_2, .int .i64 a0_3, .int .i64 (l0_4.length : Int)] 3); simpa using this)) (by rw [← hL]; rfl)
 have HP := varint_PutAll.calls _ 5 L hd _ HCn (by omega) A2.out
 rw [hL5] at HP
 clear hL hL5 HCn
 refine HP.mono ?_
 rintro e w3 ⟨rfl, hb⟩
 have HI3 := Aside0.mk (Bld.IsBuilder.below (Lib.fresh_isBuilder 64 5 w2) (below_step (below_alloc (Below.refl _ _) _) hb))
 have HX3 := Aside0.mk (below_step (below_alloc (below_alloc (Below.refl _ w2) _) _) hb)
 have hsz3 : w2.heap.size ≤ w3.heap.size := HX3.out.size
 clear hb HP hc0 hc1 hc2 hc3 hc4
 have HL1 := Aside0.mk (show ([] : List Value).length + hd.size ≤ 140737488355328 by have := HL.out; simp only [List.length_nil]; omega)
 go_wp2_with (go_at_call 22; refine (Bld.writeString w2.heap.size w2.heap.size [] hd _ HI3.out HL1.out hsz3).mono ?_)
 rintro e w4 ⟨rfl, hi, hb⟩
 have HI4 := Aside0.mk hi
 have HX4 := Aside0.mk (HX3.out.trans hb)
 have hc4 : w4.cell? ⟨gb, 4, none⟩ = some (.slice A0_4 l0_4.length c0_4) := (blk_cell ((HX4.out.block gb GB).trans BK2.out) 4).trans rfl
 clear hb hi HI3 HX3 hsz3
 go_wp2
 go_loopw [7, 30] (fun v7 v30 wr => ∃ (j : Nat) (p v : List UInt8), j ≤ l0_4.length ∧ v30 = .int .i64 j ∧ Aside0 (batch_Encode.g (l0_4.drop j) = some v) ∧ Aside0 (p ++ v = u) ∧ Aside0 (Lib.IsBuilder 64 5 w2.heap.size w2.heap.size (Lib.byteCells (hd.data.toList ++ p)) wr) ∧ Aside0 (Below w2.heap.size w2 wr)) (fun _ v30 _ => l0_4.length - (intOf v30).toNat)
 case atStart =>
  refine ⟨0, [], u, Nat.zero_le _, rfl, ⟨A3.out⟩, ⟨rfl⟩, ⟨?_⟩, HX4⟩
  have := HI4.out
  rw [Bld.strCells_eq] at this
  rw [List.append_nil]
  exact .inr this
 case round =>
  obtain ⟨j, p, v, hj, rfl, G, PV, HI, HX⟩ := hrel
  clear HI4 HX4 hc4
  by_cases hlt : j < l0_4.length
  ·have hji : (j : Int) < (l0_4.length : Int) := by omega
   have hj0 : 0 ≤ (j : Int) := by omega
   have HBr := Aside0.mk (below_step HB2.out HX.out)
   obtain ⟨ad, eA, hx0, hx1, hx2⟩ := at_T57 HR.out (j : Int) hj0 hji
   cases eA
   replace hx0 := (HBr.out.cell (World.block_lt_of_cell? w _ hx0)).trans hx0
   replace hx1 := (HBr.out.cell (World.block_lt_of_cell? w _ hx1)).trans hx1
   replace hx2 := (HBr.out.cell (World.block_lt_of_cell? w _ hx2)).trans hx2
   rw [Int.toNat_natCast] at hx0 hx1 hx2
   have hd1 : l0_4.drop j = rd_T57 l0_4 (j : Int) :: l0_4.drop (j + 1) := by
    rw [List.drop_eq_getElem_cons hlt]
    simp [rd_T57, List.getD_eq_getElem?_getD, List.getElem?_eq_getElem hlt]
   have hg := G.out
   rw [hd1] at hg
   obtain ⟨tx, vx, htx, hvx, hev⟩ := batch_Encode.g_step _ _ _ hg
   have A4 := Aside0.mk htx
   have A5 := Aside0.mk hvx
   have A6 := Aside0.mk hev
   clear hd1 hg htx hvx hev
   go_wp2_with (first | ((with_reducible refine gate_dst (N := 7) rfl ?_); refine box_event ?hg (N := 7) ?hd (cs := #[.int .i64 0, .int .i64 0, .string ⟨#[]⟩]) (t := 57) ?hr ?_; (case hd => rfl); (case hg => rfl); (case hr => first | (go_simp; done) | (go_simp; rfl)); intro gr hg w5 hbox hb; have BR := Aside0.mk hbox; have HB5 := Aside0.mk hb; have GR : wr.heap.size ≤ gr := (by rw [hg]; exact Nat.le_refl _); clear hb hbox hg; have hz0 : w5.cell? ⟨gr, 0, none⟩ = some (.int .i64 0) := (blk_cell BR.out 0).trans rfl; have hz1 : w5.cell? ⟨gr, 1, none⟩ = some (.int .i64 0) := (blk_cell BR.out 1).trans rfl; have hz2 : w5.cell? ⟨gr, 2, none⟩ = some (.string ⟨#[]⟩) := (blk_cell BR.out 2).trans rfl; have hf0 := blk_frozen BR.out 0; have hf1 := blk_frozen BR.out 1; have hf2 := blk_frozen BR.out 2) | (go_at_call 25; fail))
   refine (batch_PutRecord.calls _ _ _ tx _ A4.out).mono ?_
   rintro e w6 ⟨rfl, hb6⟩
   have HW := Aside0.mk (below_step (below_set (j := 2) (v := .string (rd_T57 l0_4 (j : Int)).f2) (below_set (j := 1) (v := .int .i64 (rd_T57 l0_4 (j : Int)).f1) (below_set (j := 0) (v := .int .i64 (rd_T57 l0_4 (j : Int)).f0) HB5.out GR) GR) GR) hb6)
   have HX6 := Aside0.mk (below_step HX.out HW.out)
   have HI6 := Aside0.mk (Bld.IsBuilder.below HI.out HW.out)
   have hsz6 : w2.heap.size ≤ w6.heap.size := HX6.out.size
   have HL6 := Aside0.mk (show (Lib.byteCells (hd.data.toList ++ p)).length + tx.size ≤ 140737488355328 by
    have h1 := HL.out
    have h2 := congrArg List.length PV.out
    rw [A6.out] at h2
    have h3 : tx.data.toList.length = tx.size := by simp
    have h4 : hd.data.toList.length = hd.size := by simp
    simp only [Lib.byteCells, List.length_map, List.length_append] at h2 ⊢
    omega)
   clear hb6 HW HB5 hz0 hz1 hz2 hf0 hf1 hf2 BR hx0 hx1 hx2
   go_wp2_with (go_at_call 22; refine (Bld.writeString w2.heap.size w2.heap.size _ tx _ HI6.out HL6.out hsz6).mono ?_)
   rintro e w7 ⟨rfl, hi, hb⟩
   have HI7 := Aside0.mk hi
   have HX7 := Aside0.mk (HX6.out.trans hb)
   clear hi hb
   go_wp2
   go_roundw
   case rel =>
    refine ⟨j + 1, p ++ tx.data.toList, vx, by omega, by go_num, A5, ⟨?_⟩, ⟨?_⟩, HX7⟩
    ·rw [List.append_assoc, ← A6.out]; exact PV.out
    have := HI7.out
    rw [Bld.strCells_eq, ← Bld.byteCells_append, List.append_assoc] at this
    exact .inr this
   case measure => simp [intOf]; omega
  obtain rfl : j = l0_4.length := by omega
  have hji : ¬ ((l0_4.length : Nat) : Int) < ((l0_4.length : Nat) : Int) := by omega
  have hv : v = [] := by
   have := G.out
   rw [List.drop_length] at this
   exact (Option.some.inj this).symm
  subst hv
  have hszr : w2.heap.size ≤ wr.heap.size := HX.out.size
  go_wp2_with (go_at_call 27; refine (Bld.string w2.heap.size w2.heap.size _ _ HI.out hszr).mono ?_)
  rintro e w8 rfl hb8
  have HX8 := Aside0.mk (below_weaken HB2.out HB2.out.size (HX.out.trans hb8))
  clear hb8
  go_wp2
  go_ret2
  have hp : p = u := by have := PV.out; rwa [List.append_nil] at this
  refine ⟨?_, HX8.out⟩
  rw [← HE1.out, ← HE2.out, ← hp]
  rfl

end Go.Proofs.Ytikbpjdgihheiaa.P
end
