-- Written by wip/mk.py of this repo: the kit's print program, with contracts of our own among its functions.
import Derived.Test.YthoegjpcjclbjaaPx0
import Derived.Test.YthoegjpcjclbjaaPx9
import Derived.Test.YthoegjpcjclbjaaPx18
-- squeezed
namespace Go.Proofs.Ythoegjpcjclbjaa.P
open Go.RowKit Go.Proofs.YthoegjpcjclbjaaW.PrintWords Go.Proofs.YthoegjpcjclbjaaW.PrintLast Go.Proofs.YthoegjpcjclbjaaW.PrintMore
attribute [local go_sem] max2_int min2_int max_two min_two max_three min_three max_four min_four   -- for this text's walks alone
set_option linter.unusedVariables false
set_option linter.unusedSimpArgs false

/-! ### headgatelaw07_DedupOnce: function 5 -/
mutual
def headgatelaw07_DedupOnce.l0 : Nat → List (S25) → Int → Option (Bool)
 | 0, _, _ => none
 | k + 1, x3, x7 => if x7 ≤ 8 then (headgatelaw07_DedupOnce.l1 k x3 x7 0 0 0) else ((headgatelaw07_awake.f k).bind fun t322 => (some t322))
def headgatelaw07_DedupOnce.l1 : Nat → List (S25) → Int → Int → Int → Int → Option (Bool)
 | 0, _, _, _, _, _ => none
 | k + 1, x3, x7, x8, x9, x10 => if x10 < (x3.length : Int) then (if 0 ≤ x10 then (if ((rd_T25 x3 x10).f1) = x7 then (if ((rd_T25 x3 x10).f2) < x8 then (some false) else (if ((rd_T25 x3 x10).f2) > x8 then (if ((rd_T25 x3 x10).f3) = 0 then (headgatelaw07_DedupOnce.l1 k x3 x7 ((rd_T25 x3 x10).f2) (wrap64 (0 + (((rd_T25 x3 x10).f4).length : Int))) (wrap64 (x10 + 1))) else (some false)) else (if ((rd_T25 x3 x10).f3) = x9 then (headgatelaw07_DedupOnce.l1 k x3 x7 x8 (wrap64 (x9 + (((rd_T25 x3 x10).f4).length : Int))) (wrap64 (x10 + 1))) else (some false)))) else (headgatelaw07_DedupOnce.l1 k x3 x7 x8 x9 (wrap64 (x10 + 1)))) else (none)) else (headgatelaw07_DedupOnce.l0 k x3 (wrap64 (x7 + 1)))
end
def headgatelaw07_DedupOnce.f (k : Nat) (l0 : List (S25)) : Option (Bool) := (headgatelaw07_let.f k l0).bind fun bt312 => (if bt312.2.2.2 = true then (headgatelaw07_DedupOnce.l0 k bt312.1 1) else (some false))
theorem headgatelaw07_DedupOnce.mono_l : ∀ k, (∀ y0 y1, LeO (headgatelaw07_DedupOnce.l0 k y0 y1) (headgatelaw07_DedupOnce.l0 (k + 1) y0 y1)) ∧ (∀ y0 y1 y2 y3 y4, LeO (headgatelaw07_DedupOnce.l1 k y0 y1 y2 y3 y4) (headgatelaw07_DedupOnce.l1 (k + 1) y0 y1 y2 y3 y4))
 | 0 => ⟨fun _ _ r h => by simp [headgatelaw07_DedupOnce.l0] at h, fun _ _ _ _ _ r h => by simp [headgatelaw07_DedupOnce.l1] at h⟩
 | k + 1 => by
  obtain ⟨ih0, ih1⟩ := headgatelaw07_DedupOnce.mono_l k
  refine ⟨?_, ?_⟩
  ·intro y0 y1
   unfold headgatelaw07_DedupOnce.l0
   repeat' first
   | (with_reducible exact ih0 _ _)
   | (with_reducible exact ih1 _ _ _ _ _)
   | (with_reducible exact headgatelaw07_awake.mono _)
   | (with_reducible exact headgatelaw07_let.mono _ _)
   | (with_reducible exact LeO.refl _)
   | (with_reducible exact LeO.none _)
   | (with_reducible refine LeO.ite ?_ ?_)
   | (with_reducible refine LeO.bind ?_ (fun _ => ?_))
   | exact ih0 _ _
   | exact ih1 _ _ _ _ _
   | exact headgatelaw07_awake.mono _
   | exact headgatelaw07_let.mono _ _
   | exact LeO.none _
   | refine LeO.ite ?_ ?_
   | refine LeO.bind ?_ (fun _ => ?_)
  ·intro y0 y1 y2 y3 y4
   unfold headgatelaw07_DedupOnce.l1
   repeat' first
   | (with_reducible exact ih0 _ _)
   | (with_reducible exact ih1 _ _ _ _ _)
   | (with_reducible exact headgatelaw07_awake.mono _)
   | (with_reducible exact headgatelaw07_let.mono _ _)
   | (with_reducible exact LeO.refl _)
   | (with_reducible exact LeO.none _)
   | (with_reducible refine LeO.ite ?_ ?_)
   | (with_reducible refine LeO.bind ?_ (fun _ => ?_))
   | exact ih0 _ _
   | exact ih1 _ _ _ _ _
   | exact headgatelaw07_awake.mono _
   | exact headgatelaw07_let.mono _ _
   | exact LeO.none _
   | refine LeO.ite ?_ ?_
   | refine LeO.bind ?_ (fun _ => ?_)
theorem headgatelaw07_DedupOnce.mono : ∀ a0 k, LeO (headgatelaw07_DedupOnce.f k a0) (headgatelaw07_DedupOnce.f (k + 1) a0) := by
 intro a0 k
 obtain ⟨ih0, ih1⟩ := headgatelaw07_DedupOnce.mono_l k
 unfold headgatelaw07_DedupOnce.f
 repeat' first
   | (with_reducible exact ih0 _ _)
   | (with_reducible exact ih1 _ _ _ _ _)
   | (with_reducible exact headgatelaw07_awake.mono _)
   | (with_reducible exact headgatelaw07_let.mono _ _)
   | (with_reducible exact LeO.refl _)
   | (with_reducible exact LeO.none _)
   | (with_reducible refine LeO.ite ?_ ?_)
   | (with_reducible refine LeO.bind ?_ (fun _ => ?_))
   | exact ih0 _ _
   | exact ih1 _ _ _ _ _
   | exact headgatelaw07_awake.mono _
   | exact headgatelaw07_let.mono _ _
   | exact LeO.none _
   | refine LeO.ite ?_ ?_
   | refine LeO.bind ?_ (fun _ => ?_)
set_option maxHeartbeats 8000000 in
set_option maxRecDepth 100000 in
theorem headgatelaw07_DedupOnce.calls (k : Nat) (A0 : Option Addr) (c0 : Nat) (l0 : List (S25)) (r : Bool) (w : World) (hr0 : Kd.C k25 w A0 l0.length l0) (hc0 : l0.length ≤ c0) (h : headgatelaw07_DedupOnce.f k l0 = some r) :
  Calls Try.prog 5 #[.slice A0 l0.length c0] w fun e w' => e = .returned (.bool r) ∧ Below w.heap.size w w' := by
 have HR0 := Aside0.mk hr0
 have HC0 := Aside0.mk hc0
 clear hr0 hc0
 have HB := Aside0.mk (Below.refl w.heap.size w)
 have H : ((headgatelaw07_let.f k l0).bind fun bt312 => (if bt312.2.2.2 = true then (headgatelaw07_DedupOnce.l0 k bt312.1 1) else (some false))) = some r := h
 clear h
 replace H := Option.bind_eq_some_iff.mp H
 obtain ⟨⟨t312, t315, t318, t321⟩, A20, H⟩ := H
 replace H : (if t321 = true then (headgatelaw07_DedupOnce.l0 k t312 1) else (some false)) = some r := H
 have A2 := Aside0.mk A20
 clear A20
 by_cases c3 : t321 = true
 ·subst c3
  have H1 : (headgatelaw07_DedupOnce.l0 k t312 1) = some r := by rw [if_pos rfl] at H; exact H
  clear H
  have H := H1
  clear H1
  have H' := Aside0.mk H
  clear H
  go_enter Try.func5, Try.ntmps5
  go_wp2_with (((with_reducible refine gate_callee (f := 16) rfl ?_); refine goesL_ (some 13) rfl rfl Try.func16 (by kernel_rfl) rfl #[.slice A0 l0.length c0] rfl (by (try simp only [List.map_toArray, List.map_cons, List.map_nil]); first | done | rfl | (simp only [List.length_drop, List.length_take]; rfl)) ?_; (with_reducible refine (headgatelaw07_let.calls k (fun k_ => k_ < w.heap.size) _ _ l0 t312 t315 t318 true _ ?side1 A2.out).mono ?_); (case side1 => exact Kd.V_mk HC0.out (Kd.F_below (Kd.C_F k25_heap HR0.out) (by repeat (first | (with_reducible first | exact HB.out | apply below_alloc | apply pw_below_drewN | apply below_drew1) | exact HB.out)))); rintro e w4 ⟨v313, v316, v319, rfl, ho0, ho1, ho2, hb⟩; refine ⟨_, rfl, ?_⟩; have n0_ := Aside0.mk (Kd.N_lower (Kd.N_mono (ok' := fun k_ => some k_ ≠ (v316 : Value).ownBlock ∧ some k_ ≠ (v319 : Value).ownBlock) ho0 (fun k_ hk_ => ⟨hk_.2.1, hk_.2.2⟩)) (below_size (by repeat (first | (with_reducible first | exact HB.out | apply below_alloc | apply pw_below_drewN | apply below_drew1) | exact HB.out)))); have n1_ := Aside0.mk (Kd.R_lower (Kd.R_mono (ok' := fun k_ => True) ho1 (fun _ hk_ => trivial)) (below_size (by repeat (first | (with_reducible first | exact HB.out | apply below_alloc | apply pw_below_drewN | apply below_drew1) | exact HB.out)))); have n2_ := Aside0.mk (Kd.R_lower (Kd.R_mono (ok' := fun k_ => True) ho2 (fun _ hk_ => trivial)) (below_size (by repeat (first | (with_reducible first | exact HB.out | apply below_alloc | apply pw_below_drewN | apply below_drew1) | exact HB.out)))); have n3_ := Aside0.mk (below_step (by repeat (first | (with_reducible first | exact HB.out | apply below_alloc | apply pw_below_drewN | apply below_drew1) | exact HB.out)) hb); clear HB; have HO314 := n0_; have HO317 := n1_; have HO320 := n2_; have HB := n3_; clear n0_ n1_ n2_ n3_; (try clear hb); (try clear hb2); (try clear hk); (try clear hi); (try clear ho0); (try clear ho1); (try clear ho2)))
  go_loopg [7] k (fun kq v7 w' => ∃ (x7_1 : Int), v7 = .int .i64 x7_1 ∧ Aside0 (headgatelaw07_DedupOnce.l0 kq t312 x7_1 = some r) ∧ Aside0 (kq ≤ k) ∧ Aside0 (Kd.N k25 25 w' w.heap.size (fun _ => True) v313 t312) ∧ Aside0 (Below w.heap.size w w'))
  case atStart => exact ⟨(1), (by first | rfl | (simp; done) | (simp [*]; done)), H', ⟨Nat.le_refl _⟩, ⟨by (with_reducible repeat (first | apply Kd.N_alloc | apply Kd.N_drewN | apply Kd.N_drew)); exact Kd.N_mono HO314.out (fun _ hk => trivial)⟩, ⟨by repeat (first | (with_reducible first | exact HB.out | apply below_alloc | apply pw_below_drewN | apply below_drew1) | exact HB.out)⟩⟩
  case round =>
   clear H'
   (try clear c1);(try clear p2);(try clear c3)
   obtain ⟨x7_1, rfl, HA, HK1, HO_3, HB⟩ := hrel
   cases gk with
   | zero => exact absurd HA.out (by simp [headgatelaw07_DedupOnce.l0])
   | succ k1 =>
    have H := HA.out
    clear HA
    simp only [headgatelaw07_DedupOnce.l0] at H
    by_cases c5 : x7_1 ≤ 8
    ·rw [if_pos c5] at H
     have c5b0 : decide (x7_1 ≤ 8) = true := decide_eq_true c5
     clear c5
     have H' := Aside0.mk H
     clear H
     go_wp2
     go_loopg [8, 9, 10] k1 (fun kq v8 v9 v10 w' => ∃ (x8_2 : Int) (x9_2 : Int) (x10_2 : Int), v8 = .int .i64 x8_2 ∧ v9 = .int .i64 x9_2 ∧ v10 = .int .i64 x10_2 ∧ Aside0 (headgatelaw07_DedupOnce.l1 kq t312 x7_1 x8_2 x9_2 x10_2 = some r) ∧ Aside0 (kq ≤ k1) ∧ Aside0 (Kd.N k25 25 w' w.heap.size (fun _ => True) v313 t312) ∧ Aside0 (Below w.heap.size w w'))
     case atStart => exact ⟨(0), (0), (0), (by first | rfl | (simp; done) | (simp [*]; done)), (by first | rfl | (simp; done) | (simp [*]; done)), (by first | rfl | (simp; done) | (simp [*]; done)), H', ⟨Nat.le_refl _⟩, ⟨by (with_reducible repeat (first | apply Kd.N_alloc | apply Kd.N_drewN | apply Kd.N_drew)); exact HO_3.out⟩, ⟨by repeat (first | (with_reducible first | exact HB.out | apply below_alloc | apply pw_below_drewN | apply below_drew1) | exact HB.out)⟩⟩
     case round =>
      clear H'
      (try clear c1);(try clear p2);(try clear c3);(try clear c5);(try clear c5b0);(try clear p2)
      obtain ⟨x8_2, x9_2, x10_2, rfl, rfl, rfl, HA, HK2, HO_3, HB⟩ := hrel
      cases gk with
      | zero => exact absurd HA.out (by simp [headgatelaw07_DedupOnce.l1])
      | succ k2 =>
       have H := HA.out
       clear HA
       simp only [headgatelaw07_DedupOnce.l1] at H
       by_cases c6 : x10_2 < (t312.length : Int)
       ·rw [if_pos c6] at H
        have c6b0 : decide (x10_2 < (t312.length : Int)) = true := decide_eq_true c6
        clear c6
        by_cases c7 : 0 ≤ x10_2
        ·rw [if_pos c7] at H
         have c7b0 : decide (0 ≤ x10_2) = true := decide_eq_true c7
         clear c7
         by_cases c8 : ((rd_T25 t312 x10_2).f1) = x7_1
         ·rw [if_pos c8] at H
          have c8b0 : (((rd_T25 t312 x10_2).f1) == x7_1) = true := beq_iff_eq.mpr c8
          have c8b1 : (((rd_T25 t312 x10_2).f1) != x7_1) = false := bne_eq_false_iff_eq.mpr c8
          clear c8
          by_cases c9 : ((rd_T25 t312 x10_2).f2) < x8_2
          ·rw [if_pos c9] at H
           have c9b0 : decide (((rd_T25 t312 x10_2).f2) < x8_2) = true := decide_eq_true c9
           clear c9
           obtain rfl := Option.some.inj H
           obtain ⟨Ao10, co10, eo10⟩ := Kd.N_slice HO_3.out
           subst eo10
           have p323 : 0 ≤ (x10_2 : Int) := of_decide_eq_true (by first | (with_reducible assumption) | assumption)
           have q323 : x10_2 < (t312.length : Int) := of_decide_eq_true (by first | (with_reducible assumption) | assumption)
           obtain ⟨ad323, A323_4, c323_4, e323, hx323_0, hx323_1, hx323_2, hx323_3, hx323_4, hl323_4, hi323_4⟩ := at_T25 (Kd.N_reads' HO_3.out).2.2 x10_2 p323 q323
           cases e323
           obtain ⟨ce323, hce323, hMe323, hcc323⟩ := Kd.N_get HO_3.out z25 x10_2 p323 (by first | exact q323 | exact of_decide_eq_true (by first | (with_reducible assumption) | assumption) | (have e_ := (Kd.N_reads' HO_3.out).1; omega))
           obtain ⟨ua323_4, uc323_4, rfl, ul323_4, ge323_4⟩ := k25_openF hMe323
           have hv323_4 := hcc323 4 _ rfl
           rw [add_field _ _ 4 (by omega)] at hv323_4
           replace hv323_4 := Option.some.inj (hv323_4.symm.trans hx323_4)
           injection hv323_4 with hva_ hvn_ hvc_
           rw [hva_] at ge323_4
           rw [hvc_] at ul323_4
           have HL323_4 := Aside0.mk (show Kd.V k49 49 _ w.heap.size _ _ ((rd_T25 t312 x10_2).f4) from Kd.V_mk ul323_4 ge323_4)
           clear hva_ hvn_ hvc_ ge323_4 ul323_4
           clear hcc323 hce323
           have HR323_4 := Aside0.mk hi323_4
           have HC323_4 := Aside0.mk hl323_4
           clear hi323_4 hl323_4
           replace p323 := eq_true p323
           replace q323 := eq_true q323
           have p324 : 0 ≤ (x10_2 : Int) := of_decide_eq_true (by first | (with_reducible assumption) | assumption)
           have q324 : x10_2 < (t312.length : Int) := of_decide_eq_true (by first | (with_reducible assumption) | assumption)
           obtain ⟨ad324, A324_4, c324_4, e324, hx324_0, hx324_1, hx324_2, hx324_3, hx324_4, hl324_4, hi324_4⟩ := at_T25 (Kd.N_reads' HO_3.out).2.2 x10_2 p324 q324
           obtain rfl : ad323 = ad324 := (by injection e324)
           obtain ⟨ce324, hce324, hMe324, hcc324⟩ := Kd.N_get HO_3.out z25 x10_2 p324 (by first | exact q324 | exact of_decide_eq_true (by first | (with_reducible assumption) | assumption) | (have e_ := (Kd.N_reads' HO_3.out).1; omega))
           obtain ⟨ua324_4, uc324_4, rfl, ul324_4, ge324_4⟩ := k25_openF hMe324
           have hv324_4 := hcc324 4 _ rfl
           rw [add_field _ _ 4 (by omega)] at hv324_4
           replace hv324_4 := Option.some.inj (hv324_4.symm.trans hx324_4)
           injection hv324_4 with hva_ hvn_ hvc_
           rw [hva_] at ge324_4
           rw [hvc_] at ul324_4
           have HL324_4 := Aside0.mk (show Kd.V k49 49 _ w.heap.size _ _ ((rd_T25 t312 x10_2).f4) from Kd.V_mk ul324_4 ge324_4)
           clear hva_ hvn_ hvc_ ge324_4 ul324_4
           clear hcc324 hce324
           have HR324_4 := Aside0.mk hi324_4
           have HC324_4 := Aside0.mk hl324_4
           clear hi324_4 hl324_4
           replace p324 := eq_true p324
           replace q324 := eq_true q324
           have ea_ := Option.some.inj (hx323_4.symm.trans hx324_4)
           injection ea_ with ea_ en_ ec_
           subst ea_
           subst ec_
           clear en_
           go_wp2
           go_ret
           exact ⟨by first | rfl | (simp [errW_none, errW_some] <;> rfl) | (simp [*, errW_none, errW_some] <;> rfl), by repeat (first | (with_reducible first | exact HB.out | apply below_alloc | apply pw_below_drewN | apply below_drew1) | exact HB.out)⟩
          ·rw [if_neg c9] at H
           have c9b0 : decide (((rd_T25 t312 x10_2).f2) < x8_2) = false := decide_eq_false c9
           clear c9
           by_cases c11 : ((rd_T25 t312 x10_2).f2) > x8_2
           ·rw [if_pos c11] at H
            have c11b0 : decide (x8_2 < ((rd_T25 t312 x10_2).f2)) = true := decide_eq_true c11
            clear c11
            by_cases c12 : ((rd_T25 t312 x10_2).f3) = 0
            ·rw [if_pos c12] at H
             have c12b0 : (((rd_T25 t312 x10_2).f3) == 0) = true := beq_iff_eq.mpr c12
             have c12b1 : (((rd_T25 t312 x10_2).f3) != 0) = false := bne_eq_false_iff_eq.mpr c12
             clear c12
             have H' := Aside0.mk H
             clear H
             obtain ⟨Ao13, co13, eo13⟩ := Kd.N_slice HO_3.out
             subst eo13
             have p323 : 0 ≤ (x10_2 : Int) := of_decide_eq_true (by first | (with_reducible assumption) | assumption)
             have q323 : x10_2 < (t312.length : Int) := of_decide_eq_true (by first | (with_reducible assumption) | assumption)
             obtain ⟨ad323, A323_4, c323_4, e323, hx323_0, hx323_1, hx323_2, hx323_3, hx323_4, hl323_4, hi323_4⟩ := at_T25 (Kd.N_reads' HO_3.out).2.2 x10_2 p323 q323
             cases e323
             obtain ⟨ce323, hce323, hMe323, hcc323⟩ := Kd.N_get HO_3.out z25 x10_2 p323 (by first | exact q323 | exact of_decide_eq_true (by first | (with_reducible assumption) | assumption) | (have e_ := (Kd.N_reads' HO_3.out).1; omega))
             obtain ⟨ua323_4, uc323_4, rfl, ul323_4, ge323_4⟩ := k25_openF hMe323
             have hv323_4 := hcc323 4 _ rfl
             rw [add_field _ _ 4 (by omega)] at hv323_4
             replace hv323_4 := Option.some.inj (hv323_4.symm.trans hx323_4)
             injection hv323_4 with hva_ hvn_ hvc_
             rw [hva_] at ge323_4
             rw [hvc_] at ul323_4
             have HL323_4 := Aside0.mk (show Kd.V k49 49 _ w.heap.size _ _ ((rd_T25 t312 x10_2).f4) from Kd.V_mk ul323_4 ge323_4)
             clear hva_ hvn_ hvc_ ge323_4 ul323_4
             clear hcc323 hce323
             have HR323_4 := Aside0.mk hi323_4
             have HC323_4 := Aside0.mk hl323_4
             clear hi323_4 hl323_4
             replace p323 := eq_true p323
             replace q323 := eq_true q323
             have p324 : 0 ≤ (x10_2 : Int) := of_decide_eq_true (by first | (with_reducible assumption) | assumption)
             have q324 : x10_2 < (t312.length : Int) := of_decide_eq_true (by first | (with_reducible assumption) | assumption)
             obtain ⟨ad324, A324_4, c324_4, e324, hx324_0, hx324_1, hx324_2, hx324_3, hx324_4, hl324_4, hi324_4⟩ := at_T25 (Kd.N_reads' HO_3.out).2.2 x10_2 p324 q324
             obtain rfl : ad323 = ad324 := (by injection e324)
             obtain ⟨ce324, hce324, hMe324, hcc324⟩ := Kd.N_get HO_3.out z25 x10_2 p324 (by first | exact q324 | exact of_decide_eq_true (by first | (with_reducible assumption) | assumption) | (have e_ := (Kd.N_reads' HO_3.out).1; omega))
             obtain ⟨ua324_4, uc324_4, rfl, ul324_4, ge324_4⟩ := k25_openF hMe324
             have hv324_4 := hcc324 4 _ rfl
             rw [add_field _ _ 4 (by omega)] at hv324_4
             replace hv324_4 := Option.some.inj (hv324_4.symm.trans hx324_4)
             injection hv324_4 with hva_ hvn_ hvc_
             rw [hva_] at ge324_4
             rw [hvc_] at ul324_4
             have HL324_4 := Aside0.mk (show Kd.V k49 49 _ w.heap.size _ _ ((rd_T25 t312 x10_2).f4) from Kd.V_mk ul324_4 ge324_4)
             clear hva_ hvn_ hvc_ ge324_4 ul324_4
             clear hcc324 hce324
             have HR324_4 := Aside0.mk hi324_4
             have HC324_4 := Aside0.mk hl324_4
             clear hi324_4 hl324_4
             replace p324 := eq_true p324
             replace q324 := eq_true q324
             have ea_ := Option.some.inj (hx323_4.symm.trans hx324_4)
             injection ea_ with ea_ en_ ec_
             subst ea_
             subst ec_
             clear en_
             have p325 : 0 ≤ (x10_2 : Int) := of_decide_eq_true (by first | (with_reducible assumption) | assumption)
             have q325 : x10_2 < (t312.length : Int) := of_decide_eq_true (by first | (with_reducible assumption) | assumption)
             obtain ⟨ad325, A325_4, c325_4, e325, hx325_0, hx325_1, hx325_2, hx325_3, hx325_4, hl325_4, hi325_4⟩ := at_T25 (Kd.N_reads' HO_3.out).2.2 x10_2 p325 q325
             obtain rfl : ad323 = ad325 := (by injection e325)
             obtain ⟨ce325, hce325, hMe325, hcc325⟩ := Kd.N_get HO_3.out z25 x10_2 p325 (by first | exact q325 | exact of_decide_eq_true (by first | (with_reducible assumption) | assumption) | (have e_ := (Kd.N_reads' HO_3.out).1; omega))
             obtain ⟨ua325_4, uc325_4, rfl, ul325_4, ge325_4⟩ := k25_openF hMe325
             have hv325_4 := hcc325 4 _ rfl
             rw [add_field _ _ 4 (by omega)] at hv325_4
             replace hv325_4 := Option.some.inj (hv325_4.symm.trans hx325_4)
             injection hv325_4 with hva_ hvn_ hvc_
             rw [hva_] at ge325_4
             rw [hvc_] at ul325_4
             have HL325_4 := Aside0.mk (show Kd.V k49 49 _ w.heap.size _ _ ((rd_T25 t312 x10_2).f4) from Kd.V_mk ul325_4 ge325_4)
             clear hva_ hvn_ hvc_ ge325_4 ul325_4
             clear hcc325 hce325
             have HR325_4 := Aside0.mk hi325_4
             have HC325_4 := Aside0.mk hl325_4
             clear hi325_4 hl325_4
             replace p325 := eq_true p325
             replace q325 := eq_true q325
             have ea_ := Option.some.inj (hx323_4.symm.trans hx325_4)
             injection ea_ with ea_ en_ ec_
             subst ea_
             subst ec_
             clear en_
             have p326 : 0 ≤ (x10_2 : Int) := of_decide_eq_true (by first | (with_reducible assumption) | assumption)
             have q326 : x10_2 < (t312.length : Int) := of_decide_eq_true (by first | (with_reducible assumption) | assumption)
             obtain ⟨ad326, A326_4, c326_4, e326, hx326_0, hx326_1, hx326_2, hx326_3, hx326_4, hl326_4, hi326_4⟩ := at_T25 (Kd.N_reads' HO_3.out).2.2 x10_2 p326 q326
             obtain rfl : ad323 = ad326 := (by injection e326)
             obtain ⟨ce326, hce326, hMe326, hcc326⟩ := Kd.N_get HO_3.out z25 x10_2 p326 (by first | exact q326 | exact of_decide_eq_true (by first | (with_reducible assumption) | assumption) | (have e_ := (Kd.N_reads' HO_3.out).1; omega))
             obtain ⟨ua326_4, uc326_4, rfl, ul326_4, ge326_4⟩ := k25_openF hMe326
             have hv326_4 := hcc326 4 _ rfl
             rw [add_field _ _ 4 (by omega)] at hv326_4
             replace hv326_4 := Option.some.inj (hv326_4.symm.trans hx326_4)
             injection hv326_4 with hva_ hvn_ hvc_
             rw [hva_] at ge326_4
             rw [hvc_] at ul326_4
             have HL326_4 := Aside0.mk (show Kd.V k49 49 _ w.heap.size _ _ ((rd_T25 t312 x10_2).f4) from Kd.V_mk ul326_4 ge326_4)
             clear hva_ hvn_ hvc_ ge326_4 ul326_4
             clear hcc326 hce326
             have HR326_4 := Aside0.mk hi326_4
             have HC326_4 := Aside0.mk hl326_4
             clear hi326_4 hl326_4
             replace p326 := eq_true p326
             replace q326 := eq_true q326
             have ea_ := Option.some.inj (hx323_4.symm.trans hx326_4)
             injection ea_ with ea_ en_ ec_
             subst ea_
             subst ec_
             clear en_
             have p327 : 0 ≤ (x10_2 : Int) := of_decide_eq_true (by first | (with_reducible assumption) | assumption)
             have q327 : x10_2 < (t312.length : Int) := of_decide_eq_true (by first | (with_reducible assumption) | assumption)
             obtain ⟨ad327, A327_4, c327_4, e327, hx327_0, hx327_1, hx327_2, hx327_3, hx327_4, hl327_4, hi327_4⟩ := at_T25 (Kd.N_reads' HO_3.out).2.2 x10_2 p327 q327
             obtain rfl : ad323 = ad327 := (by injection e327)
             obtain ⟨ce327, hce327, hMe327, hcc327⟩ := Kd.N_get HO_3.out z25 x10_2 p327 (by first | exact q327 | exact of_decide_eq_true (by first | (with_reducible assumption) | assumption) | (have e_ := (Kd.N_reads' HO_3.out).1; omega))
             obtain ⟨ua327_4, uc327_4, rfl, ul327_4, ge327_4⟩ := k25_openF hMe327
             have hv327_4 := hcc327 4 _ rfl
             rw [add_field _ _ 4 (by omega)] at hv327_4
             replace hv327_4 := Option.some.inj (hv327_4.symm.trans hx327_4)
             injection hv327_4 with hva_ hvn_ hvc_
             rw [hva_] at ge327_4
             rw [hvc_] at ul327_4
             have HL327_4 := Aside0.mk (show Kd.V k49 49 _ w.heap.size _ _ ((rd_T25 t312 x10_2).f4) from Kd.V_mk ul327_4 ge327_4)
             clear hva_ hvn_ hvc_ ge327_4 ul327_4
             clear hcc327 hce327
             have HR327_4 := Aside0.mk hi327_4
             have HC327_4 := Aside0.mk hl327_4
             clear hi327_4 hl327_4
             replace p327 := eq_true p327
             replace q327 := eq_true q327
             have ea_ := Option.some.inj (hx323_4.symm.trans hx327_4)
             injection ea_ with ea_ en_ ec_
             subst ea_
             subst ec_
             clear en_
             have p328 : 0 ≤ (x10_2 : Int) := of_decide_eq_true (by first | (with_reducible assumption) | assumption)
             have q328 : x10_2 < (t312.length : Int) := of_decide_eq_true (by first | (with_reducible assumption) | assumption)
             obtain ⟨ad328, A328_4, c328_4, e328, hx328_0, hx328_1, hx328_2, hx328_3, hx328_4, hl328_4, hi328_4⟩ := at_T25 (Kd.N_reads' HO_3.out).2.2 x10_2 p328 q328
             obtain rfl : ad323 = ad328 := (by injection e328)
             obtain ⟨ce328, hce328, hMe328, hcc328⟩ := Kd.N_get HO_3.out z25 x10_2 p328 (by first | exact q328 | exact of_decide_eq_true (by first | (with_reducible assumption) | assumption) | (have e_ := (Kd.N_reads' HO_3.out).1; omega))
             obtain ⟨ua328_4, uc328_4, rfl, ul328_4, ge328_4⟩ := k25_openF hMe328
             have hv328_4 := hcc328 4 _ rfl
             rw [add_field _ _ 4 (by omega)] at hv328_4
             replace hv328_4 := Option.some.inj (hv328_4.symm.trans hx328_4)
             injection hv328_4 with hva_ hvn_ hvc_
             rw [hva_] at ge328_4
             rw [hvc_] at ul328_4
             have HL328_4 := Aside0.mk (show Kd.V k49 49 _ w.heap.size _ _ ((rd_T25 t312 x10_2).f4) from Kd.V_mk ul328_4 ge328_4)
             clear hva_ hvn_ hvc_ ge328_4 ul328_4
             clear hcc328 hce328
             have HR328_4 := Aside0.mk hi328_4
             have HC328_4 := Aside0.mk hl328_4
             clear hi328_4 hl328_4
             replace p328 := eq_true p328
             replace q328 := eq_true q328
             have ea_ := Option.some.inj (hx323_4.symm.trans hx328_4)
             injection ea_ with ea_ en_ ec_
             subst ea_
             subst ec_
             clear en_
             go_wp2
             go_roundg k2
             case measure => have := HK1.out; have := HK2.out; omega
             case rel => exact ⟨((rd_T25 t312 x10_2).f2), (wrap64 (0 + (((rd_T25 t312 x10_2).f4).length : Int))), (wrap64 (x10_2 + 1)), (by first | rfl | (simp; done) | (simp [*]; done)), (by first | rfl | (simp; done) | (simp [*]; done)), (by first | rfl | (simp; done) | (simp [*]; done)), H', ⟨by have := HK1.out; have := HK2.out; omega⟩, ⟨by (with_reducible repeat (first | apply Kd.N_alloc | apply Kd.N_drewN | apply Kd.N_drew)); exact HO_3.out⟩, ⟨by repeat (first | (with_reducible first | exact HB.out | apply below_alloc | apply pw_below_drewN | apply below_drew1) | exact HB.out)⟩⟩
            ·rw [if_neg c12] at H
             have c12b0 : (((rd_T25 t312 x10_2).f3) == 0) = false := beq_eq_false_iff_ne.mpr c12
             have c12b1 : (((rd_T25 t312 x10_2).f3) != 0) = true := bne_iff_ne.mpr c12
             obtain rfl := Option.some.inj H
             obtain ⟨Ao14, co14, eo14⟩ := Kd.N_slice HO_3.out
             subst eo14
             have p323 : 0 ≤ (x10_2 : Int) := of_decide_eq_true (by first | (with_reducible assumption) | assumption)
             have q323 : x10_2 < (t312.length : Int) := of_decide_eq_true (by first | (with_reducible assumption) | assumption)
             obtain ⟨ad323, A323_4, c323_4, e323, hx323_0, hx323_1, hx323_2, hx323_3, hx323_4, hl323_4, hi323_4⟩ := at_T25 (Kd.N_reads' HO_3.out).2.2 x10_2 p323 q323
             cases e323
             obtain ⟨ce323, hce323, hMe323, hcc323⟩ := Kd.N_get HO_3.out z25 x10_2 p323 (by first | exact q323 | exact of_decide_eq_true (by first | (with_reducible assumption) | assumption) | (have e_ := (Kd.N_reads' HO_3.out).1; omega))
             obtain ⟨ua323_4, uc323_4, rfl, ul323_4, ge323_4⟩ := k25_openF hMe323
             have hv323_4 := hcc323 4 _ rfl
             rw [add_field _ _ 4 (by omega)] at hv323_4
             replace hv323_4 := Option.some.inj (hv323_4.symm.trans hx323_4)
             injection hv323_4 with hva_ hvn_ hvc_
             rw [hva_] at ge323_4
             rw [hvc_] at ul323_4
             have HL323_4 := Aside0.mk (show Kd.V k49 49 _ w.heap.size _ _ ((rd_T25 t312 x10_2).f4) from Kd.V_mk ul323_4 ge323_4)
             clear hva_ hvn_ hvc_ ge323_4 ul323_4
             clear hcc323 hce323
             have HR323_4 := Aside0.mk hi323_4
             have HC323_4 := Aside0.mk hl323_4
             clear hi323_4 hl323_4
             replace p323 := eq_true p323
             replace q323 := eq_true q323
             have p324 : 0 ≤ (x10_2 : Int) := of_decide_eq_true (by first | (with_reducible assumption) | assumption)
             have q324 : x10_2 < (t312.length : Int) := of_decide_eq_true (by first | (with_reducible assumption) | assumption)
             obtain ⟨ad324, A324_4, c324_4, e324, hx324_0, hx324_1, hx324_2, hx324_3, hx324_4, hl324_4, hi324_4⟩ := at_T25 (Kd.N_reads' HO_3.out).2.2 x10_2 p324 q324
             obtain rfl : ad323 = ad324 := (by injection e324)
             obtain ⟨ce324, hce324, hMe324, hcc324⟩ := Kd.N_get HO_3.out z25 x10_2 p324 (by first | exact q324 | exact of_decide_eq_true (by first | (with_reducible assumption) | assumption) | (have e_ := (Kd.N_reads' HO_3.out).1; omega))
             obtain ⟨ua324_4, uc324_4, rfl, ul324_4, ge324_4⟩ := k25_openF hMe324
             have hv324_4 := hcc324 4 _ rfl
             rw [add_field _ _ 4 (by omega)] at hv324_4
             replace hv324_4 := Option.some.inj (hv324_4.symm.trans hx324_4)
             injection hv324_4 with hva_ hvn_ hvc_
             rw [hva_] at ge324_4
             rw [hvc_] at ul324_4
             have HL324_4 := Aside0.mk (show Kd.V k49 49 _ w.heap.size _ _ ((rd_T25 t312 x10_2).f4) from Kd.V_mk ul324_4 ge324_4)
             clear hva_ hvn_ hvc_ ge324_4 ul324_4
             clear hcc324 hce324
             have HR324_4 := Aside0.mk hi324_4
             have HC324_4 := Aside0.mk hl324_4
             clear hi324_4 hl324_4
             replace p324 := eq_true p324
             replace q324 := eq_true q324
             have ea_ := Option.some.inj (hx323_4.symm.trans hx324_4)
             injection ea_ with ea_ en_ ec_
             subst ea_
             subst ec_
             clear en_
             have p325 : 0 ≤ (x10_2 : Int) := of_decide_eq_true (by first | (with_reducible assumption) | assumption)
             have q325 : x10_2 < (t312.length : Int) := of_decide_eq_true (by first | (with_reducible assumption) | assumption)
             obtain ⟨ad325, A325_4, c325_4, e325, hx325_0, hx325_1, hx325_2, hx325_3, hx325_4, hl325_4, hi325_4⟩ := at_T25 (Kd.N_reads' HO_3.out).2.2 x10_2 p325 q325
             obtain rfl : ad323 = ad325 := (by injection e325)
             obtain ⟨ce325, hce325, hMe325, hcc325⟩ := Kd.N_get HO_3.out z25 x10_2 p325 (by first | exact q325 | exact of_decide_eq_true (by first | (with_reducible assumption) | assumption) | (have e_ := (Kd.N_reads' HO_3.out).1; omega))
             obtain ⟨ua325_4, uc325_4, rfl, ul325_4, ge325_4⟩ := k25_openF hMe325
             have hv325_4 := hcc325 4 _ rfl
             rw [add_field _ _ 4 (by omega)] at hv325_4
             replace hv325_4 := Option.some.inj (hv325_4.symm.trans hx325_4)
             injection hv325_4 with hva_ hvn_ hvc_
             rw [hva_] at ge325_4
             rw [hvc_] at ul325_4
             have HL325_4 := Aside0.mk (show Kd.V k49 49 _ w.heap.size _ _ ((rd_T25 t312 x10_2).f4) from Kd.V_mk ul325_4 ge325_4)
             clear hva_ hvn_ hvc_ ge325_4 ul325_4
             clear hcc325 hce325
             have HR325_4 := Aside0.mk hi325_4
             have HC325_4 := Aside0.mk hl325_4
             clear hi325_4 hl325_4
             replace p325 := eq_true p325
             replace q325 := eq_true q325
             have ea_ := Option.some.inj (hx323_4.symm.trans hx325_4)
             injection ea_ with ea_ en_ ec_
             subst ea_
             subst ec_
             clear en_
             have p326 : 0 ≤ (x10_2 : Int) := of_decide_eq_true (by first | (with_reducible assumption) | assumption)
             have q326 : x10_2 < (t312.length : Int) := of_decide_eq_true (by first | (with_reducible assumption) | assumption)
             obtain ⟨ad326, A326_4, c326_4, e326, hx326_0, hx326_1, hx326_2, hx326_3, hx326_4, hl326_4, hi326_4⟩ := at_T25 (Kd.N_reads' HO_3.out).2.2 x10_2 p326 q326
             obtain rfl : ad323 = ad326 := (by injection e326)
             obtain ⟨ce326, hce326, hMe326, hcc326⟩ := Kd.N_get HO_3.out z25 x10_2 p326 (by first | exact q326 | exact of_decide_eq_true (by first | (with_reducible assumption) | assumption) | (have e_ := (Kd.N_reads' HO_3.out).1; omega))
             obtain ⟨ua326_4, uc326_4, rfl, ul326_4, ge326_4⟩ := k25_openF hMe326
             have hv326_4 := hcc326 4 _ rfl
             rw [add_field _ _ 4 (by omega)] at hv326_4
             replace hv326_4 := Option.some.inj (hv326_4.symm.trans hx326_4)
             injection hv326_4 with hva_ hvn_ hvc_
             rw [hva_] at ge326_4
             rw [hvc_] at ul326_4
             have HL326_4 := Aside0.mk (show Kd.V k49 49 _ w.heap.size _ _ ((rd_T25 t312 x10_2).f4) from Kd.V_mk ul326_4 ge326_4)
             clear hva_ hvn_ hvc_ ge326_4 ul326_4
             clear hcc326 hce326
             have HR326_4 := Aside0.mk hi326_4
             have HC326_4 := Aside0.mk hl326_4
             clear hi326_4 hl326_4
             replace p326 := eq_true p326
             replace q326 := eq_true q326
             have ea_ := Option.some.inj (hx323_4.symm.trans hx326_4)
             injection ea_ with ea_ en_ ec_
             subst ea_
             subst ec_
             clear en_
             have p327 : 0 ≤ (x10_2 : Int) := of_decide_eq_true (by first | (with_reducible assumption) | assumption)
             have q327 : x10_2 < (t312.length : Int) := of_decide_eq_true (by first | (with_reducible assumption) | assumption)
             obtain ⟨ad327, A327_4, c327_4, e327, hx327_0, hx327_1, hx327_2, hx327_3, hx327_4, hl327_4, hi327_4⟩ := at_T25 (Kd.N_reads' HO_3.out).2.2 x10_2 p327 q327
             obtain rfl : ad323 = ad327 := (by injection e327)
             obtain ⟨ce327, hce327, hMe327, hcc327⟩ := Kd.N_get HO_3.out z25 x10_2 p327 (by first | exact q327 | exact of_decide_eq_true (by first | (with_reducible assumption) | assumption) | (have e_ := (Kd.N_reads' HO_3.out).1; omega))
             obtain ⟨ua327_4, uc327_4, rfl, ul327_4, ge327_4⟩ := k25_openF hMe327
             have hv327_4 := hcc327 4 _ rfl
             rw [add_field _ _ 4 (by omega)] at hv327_4
             replace hv327_4 := Option.some.inj (hv327_4.symm.trans hx327_4)
             injection hv327_4 with hva_ hvn_ hvc_
             rw [hva_] at ge327_4
             rw [hvc_] at ul327_4
             have HL327_4 := Aside0.mk (show Kd.V k49 49 _ w.heap.size _ _ ((rd_T25 t312 x10_2).f4) from Kd.V_mk ul327_4 ge327_4)
             clear hva_ hvn_ hvc_ ge327_4 ul327_4
             clear hcc327 hce327
             have HR327_4 := Aside0.mk hi327_4
             have HC327_4 := Aside0.mk hl327_4
             clear hi327_4 hl327_4
             replace p327 := eq_true p327
             replace q327 := eq_true q327
             have ea_ := Option.some.inj (hx323_4.symm.trans hx327_4)
             injection ea_ with ea_ en_ ec_
             subst ea_
             subst ec_
             clear en_
             go_wp2
             go_ret
             exact ⟨by first | rfl | (simp [errW_none, errW_some] <;> rfl) | (simp [*, errW_none, errW_some] <;> rfl), by repeat (first | (with_reducible first | exact HB.out | apply below_alloc | apply pw_below_drewN | apply below_drew1) | exact HB.out)⟩
           ·rw [if_neg c11] at H
            have c11b0 : decide (x8_2 < ((rd_T25 t312 x10_2).f2)) = false := decide_eq_false c11
            clear c11
            by_cases c15 : ((rd_T25 t312 x10_2).f3) = x9_2
            ·rw [if_pos c15] at H
             have c15b0 : (((rd_T25 t312 x10_2).f3) == x9_2) = true := beq_iff_eq.mpr c15
             have c15b1 : (((rd_T25 t312 x10_2).f3) != x9_2) = false := bne_eq_false_iff_eq.mpr c15
             clear c15
             have H' := Aside0.mk H
             clear H
             obtain ⟨Ao16, co16, eo16⟩ := Kd.N_slice HO_3.out
             subst eo16
             have p323 : 0 ≤ (x10_2 : Int) := of_decide_eq_true (by first | (with_reducible assumption) | assumption)
             have q323 : x10_2 < (t312.length : Int) := of_decide_eq_true (by first | (with_reducible assumption) | assumption)
             obtain ⟨ad323, A323_4, c323_4, e323, hx323_0, hx323_1, hx323_2, hx323_3, hx323_4, hl323_4, hi323_4⟩ := at_T25 (Kd.N_reads' HO_3.out).2.2 x10_2 p323 q323
             cases e323
             obtain ⟨ce323, hce323, hMe323, hcc323⟩ := Kd.N_get HO_3.out z25 x10_2 p323 (by first | exact q323 | exact of_decide_eq_true (by first | (with_reducible assumption) | assumption) | (have e_ := (Kd.N_reads' HO_3.out).1; omega))
             obtain ⟨ua323_4, uc323_4, rfl, ul323_4, ge323_4⟩ := k25_openF hMe323
             have hv323_4 := hcc323 4 _ rfl
             rw [add_field _ _ 4 (by omega)] at hv323_4
             replace hv323_4 := Option.some.inj (hv323_4.symm.trans hx323_4)
             injection hv323_4 with hva_ hvn_ hvc_
             rw [hva_] at ge323_4
             rw [hvc_] at ul323_4
             have HL323_4 := Aside0.mk (show Kd.V k49 49 _ w.heap.size _ _ ((rd_T25 t312 x10_2).f4) from Kd.V_mk ul323_4 ge323_4)
             clear hva_ hvn_ hvc_ ge323_4 ul323_4
             clear hcc323 hce323
             have HR323_4 := Aside0.mk hi323_4
             have HC323_4 := Aside0.mk hl323_4
             clear hi323_4 hl323_4
             replace p323 := eq_true p323
             replace q323 := eq_true q323
             have p324 : 0 ≤ (x10_2 : Int) := of_decide_eq_true (by first | (with_reducible assumption) | assumption)
             have q324 : x10_2 < (t312.length : Int) := of_decide_eq_true (by first | (with_reducible assumption) | assumption)
             obtain ⟨ad324, A324_4, c324_4, e324, hx324_0, hx324_1, hx324_2, hx324_3, hx324_4, hl324_4, hi324_4⟩ := at_T25 (Kd.N_reads' HO_3.out).2.2 x10_2 p324 q324
             obtain rfl : ad323 = ad324 := (by injection e324)
             obtain ⟨ce324, hce324, hMe324, hcc324⟩ := Kd.N_get HO_3.out z25 x10_2 p324 (by first | exact q324 | exact of_decide_eq_true (by first | (with_reducible assumption) | assumption) | (have e_ := (Kd.N_reads' HO_3.out).1; omega))
             obtain ⟨ua324_4, uc324_4, rfl, ul324_4, ge324_4⟩ := k25_openF hMe324
             have hv324_4 := hcc324 4 _ rfl
             rw [add_field _ _ 4 (by omega)] at hv324_4
             replace hv324_4 := Option.some.inj (hv324_4.symm.trans hx324_4)
             injection hv324_4 with hva_ hvn_ hvc_
             rw [hva_] at ge324_4
             rw [hvc_] at ul324_4
             have HL324_4 := Aside0.mk (show Kd.V k49 49 _ w.heap.size _ _ ((rd_T25 t312 x10_2).f4) from Kd.V_mk ul324_4 ge324_4)
             clear hva_ hvn_ hvc_ ge324_4 ul324_4
             clear hcc324 hce324
             have HR324_4 := Aside0.mk hi324_4
             have HC324_4 := Aside0.mk hl324_4
             clear hi324_4 hl324_4
             replace p324 := eq_true p324
             replace q324 := eq_true q324
             have ea_ := Option.some.inj (hx323_4.symm.trans hx324_4)
             injection ea_ with ea_ en_ ec_
             subst ea_
             subst ec_
             clear en_
             have p325 : 0 ≤ (x10_2 : Int) := of_decide_eq_true (by first | (with_reducible assumption) | assumption)
             have q325 : x10_2 < (t312.length : Int) := of_decide_eq_true (by first | (with_reducible assumption) | assumption)
             obtain ⟨ad325, A325_4, c325_4, e325, hx325_0, hx325_1, hx325_2, hx325_3, hx325_4, hl325_4, hi325_4⟩ := at_T25 (Kd.N_reads' HO_3.out).2.2 x10_2 p325 q325
             obtain rfl : ad323 = ad325 := (by injection e325)
             obtain ⟨ce325, hce325, hMe325, hcc325⟩ := Kd.N_get HO_3.out z25 x10_2 p325 (by first | exact q325 | exact of_decide_eq_true (by first | (with_reducible assumption) | assumption) | (have e_ := (Kd.N_reads' HO_3.out).1; omega))
             obtain ⟨ua325_4, uc325_4, rfl, ul325_4, ge325_4⟩ := k25_openF hMe325
             have hv325_4 := hcc325 4 _ rfl
             rw [add_field _ _ 4 (by omega)] at hv325_4
             replace hv325_4 := Option.some.inj (hv325_4.symm.trans hx325_4)
             injection hv325_4 with hva_ hvn_ hvc_
             rw [hva_] at ge325_4
             rw [hvc_] at ul325_4
             have HL325_4 := Aside0.mk (show Kd.V k49 49 _ w.heap.size _ _ ((rd_T25 t312 x10_2).f4) from Kd.V_mk ul325_4 ge325_4)
             clear hva_ hvn_ hvc_ ge325_4 ul325_4
             clear hcc325 hce325
             have HR325_4 := Aside0.mk hi325_4
             have HC325_4 := Aside0.mk hl325_4
             clear hi325_4 hl325_4
             replace p325 := eq_true p325
             replace q325 := eq_true q325
             have ea_ := Option.some.inj (hx323_4.symm.trans hx325_4)
             injection ea_ with ea_ en_ ec_
             subst ea_
             subst ec_
             clear en_
             have p329 : 0 ≤ (x10_2 : Int) := of_decide_eq_true (by first | (with_reducible assumption) | assumption)
             have q329 : x10_2 < (t312.length : Int) := of_decide_eq_true (by first | (with_reducible assumption) | assumption)
             obtain ⟨ad329, A329_4, c329_4, e329, hx329_0, hx329_1, hx329_2, hx329_3, hx329_4, hl329_4, hi329_4⟩ := at_T25 (Kd.N_reads' HO_3.out).2.2 x10_2 p329 q329
             obtain rfl : ad323 = ad329 := (by injection e329)
             obtain ⟨ce329, hce329, hMe329, hcc329⟩ := Kd.N_get HO_3.out z25 x10_2 p329 (by first | exact q329 | exact of_decide_eq_true (by first | (with_reducible assumption) | assumption) | (have e_ := (Kd.N_reads' HO_3.out).1; omega))
             obtain ⟨ua329_4, uc329_4, rfl, ul329_4, ge329_4⟩ := k25_openF hMe329
             have hv329_4 := hcc329 4 _ rfl
             rw [add_field _ _ 4 (by omega)] at hv329_4
             replace hv329_4 := Option.some.inj (hv329_4.symm.trans hx329_4)
             injection hv329_4 with hva_ hvn_ hvc_
             rw [hva_] at ge329_4
             rw [hvc_] at ul329_4
             have HL329_4 := Aside0.mk (show Kd.V k49 49 _ w.heap.size _ _ ((rd_T25 t312 x10_2).f4) from Kd.V_mk ul329_4 ge329_4)
             clear hva_ hvn_ hvc_ ge329_4 ul329_4
             clear hcc329 hce329
             have HR329_4 := Aside0.mk hi329_4
             have HC329_4 := Aside0.mk hl329_4
             clear hi329_4 hl329_4
             replace p329 := eq_true p329
             replace q329 := eq_true q329
             have ea_ := Option.some.inj (hx323_4.symm.trans hx329_4)
             injection ea_ with ea_ en_ ec_
             subst ea_
             subst ec_
             clear en_
             have p330 : 0 ≤ (x10_2 : Int) := of_decide_eq_true (by first | (with_reducible assumption) | assumption)
             have q330 : x10_2 < (t312.length : Int) := of_decide_eq_true (by first | (with_reducible assumption) | assumption)
             obtain ⟨ad330, A330_4, c330_4, e330, hx330_0, hx330_1, hx330_2, hx330_3, hx330_4, hl330_4, hi330_4⟩ := at_T25 (Kd.N_reads' HO_3.out).2.2 x10_2 p330 q330
             obtain rfl : ad323 = ad330 := (by injection e330)
             obtain ⟨ce330, hce330, hMe330, hcc330⟩ := Kd.N_get HO_3.out z25 x10_2 p330 (by first | exact q330 | exact of_decide_eq_true (by first | (with_reducible assumption) | assumption) | (have e_ := (Kd.N_reads' HO_3.out).1; omega))
             obtain ⟨ua330_4, uc330_4, rfl, ul330_4, ge330_4⟩ := k25_openF hMe330
             have hv330_4 := hcc330 4 _ rfl
             rw [add_field _ _ 4 (by omega)] at hv330_4
             replace hv330_4 := Option.some.inj (hv330_4.symm.trans hx330_4)
             injection hv330_4 with hva_ hvn_ hvc_
             rw [hva_] at ge330_4
             rw [hvc_] at ul330_4
             have HL330_4 := Aside0.mk (show Kd.V k49 49 _ w.heap.size _ _ ((rd_T25 t312 x10_2).f4) from Kd.V_mk ul330_4 ge330_4)
             clear hva_ hvn_ hvc_ ge330_4 ul330_4
             clear hcc330 hce330
             have HR330_4 := Aside0.mk hi330_4
             have HC330_4 := Aside0.mk hl330_4
             clear hi330_4 hl330_4
             replace p330 := eq_true p330
             replace q330 := eq_true q330
             have ea_ := Option.some.inj (hx323_4.symm.trans hx330_4)
             injection ea_ with ea_ en_ ec_
             subst ea_
             subst ec_
             clear en_
             go_wp2
             go_roundg k2
             case measure => have := HK1.out; have := HK2.out; omega
             case rel => exact ⟨(x8_2), (wrap64 (x9_2 + (((rd_T25 t312 x10_2).f4).length : Int))), (wrap64 (x10_2 + 1)), (by first | rfl | (simp; done) | (simp [*]; done)), (by first | rfl | (simp; done) | (simp [*]; done)), (by first | rfl | (simp; done) | (simp [*]; done)), H', ⟨by have := HK1.out; have := HK2.out; omega⟩, ⟨by (with_reducible repeat (first | apply Kd.N_alloc | apply Kd.N_drewN | apply Kd.N_drew)); exact HO_3.out⟩, ⟨by repeat (first | (with_reducible first | exact HB.out | apply below_alloc | apply pw_below_drewN | apply below_drew1) | exact HB.out)⟩⟩
            ·rw [if_neg c15] at H
             have c15b0 : (((rd_T25 t312 x10_2).f3) == x9_2) = false := beq_eq_false_iff_ne.mpr c15
             have c15b1 : (((rd_T25 t312 x10_2).f3) != x9_2) = true := bne_iff_ne.mpr c15
             obtain rfl := Option.some.inj H
             obtain ⟨Ao17, co17, eo17⟩ := Kd.N_slice HO_3.out
             subst eo17
             have p323 : 0 ≤ (x10_2 : Int) := of_decide_eq_true (by first | (with_reducible assumption) | assumption)
             have q323 : x10_2 < (t312.length : Int) := of_decide_eq_true (by first | (with_reducible assumption) | assumption)
             obtain ⟨ad323, A323_4, c323_4, e323, hx323_0, hx323_1, hx323_2, hx323_3, hx323_4, hl323_4, hi323_4⟩ := at_T25 (Kd.N_reads' HO_3.out).2.2 x10_2 p323 q323
             cases e323
             obtain ⟨ce323, hce323, hMe323, hcc323⟩ := Kd.N_get HO_3.out z25 x10_2 p323 (by first | exact q323 | exact of_decide_eq_true (by first | (with_reducible assumption) | assumption) | (have e_ := (Kd.N_reads' HO_3.out).1; omega))
             obtain ⟨ua323_4, uc323_4, rfl, ul323_4, ge323_4⟩ := k25_openF hMe323
             have hv323_4 := hcc323 4 _ rfl
             rw [add_field _ _ 4 (by omega)] at hv323_4
             replace hv323_4 := Option.some.inj (hv323_4.symm.trans hx323_4)
             injection hv323_4 with hva_ hvn_ hvc_
             rw [hva_] at ge323_4
             rw [hvc_] at ul323_4
             have HL323_4 := Aside0.mk (show Kd.V k49 49 _ w.heap.size _ _ ((rd_T25 t312 x10_2).f4) from Kd.V_mk ul323_4 ge323_4)
             clear hva_ hvn_ hvc_ ge323_4 ul323_4
             clear hcc323 hce323
             have HR323_4 := Aside0.mk hi323_4
             have HC323_4 := Aside0.mk hl323_4
             clear hi323_4 hl323_4
             replace p323 := eq_true p323
             replace q323 := eq_true q323
             have p324 : 0 ≤ (x10_2 : Int) := of_decide_eq_true (by first | (with_reducible assumption) | assumption)
             have q324 : x10_2 < (t312.length : Int) := of_decide_eq_true (by first | (with_reducible assumption) | assumption)
             obtain ⟨ad324, A324_4, c324_4, e324, hx324_0, hx324_1, hx324_2, hx324_3, hx324_4, hl324_4, hi324_4⟩ := at_T25 (Kd.N_reads' HO_3.out).2.2 x10_2 p324 q324
             obtain rfl : ad323 = ad324 := (by injection e324)
             obtain ⟨ce324, hce324, hMe324, hcc324⟩ := Kd.N_get HO_3.out z25 x10_2 p324 (by first | exact q324 | exact of_decide_eq_true (by first | (with_reducible assumption) | assumption) | (have e_ := (Kd.N_reads' HO_3.out).1; omega))
             obtain ⟨ua324_4, uc324_4, rfl, ul324_4, ge324_4⟩ := k25_openF hMe324
             have hv324_4 := hcc324 4 _ rfl
             rw [add_field _ _ 4 (by omega)] at hv324_4
             replace hv324_4 := Option.some.inj (hv324_4.symm.trans hx324_4)
             injection hv324_4 with hva_ hvn_ hvc_
             rw [hva_] at ge324_4
             rw [hvc_] at ul324_4
             have HL324_4 := Aside0.mk (show Kd.V k49 49 _ w.heap.size _ _ ((rd_T25 t312 x10_2).f4) from Kd.V_mk ul324_4 ge324_4)
             clear hva_ hvn_ hvc_ ge324_4 ul324_4
             clear hcc324 hce324
             have HR324_4 := Aside0.mk hi324_4
             have HC324_4 := Aside0.mk hl324_4
             clear hi324_4 hl324_4
             replace p324 := eq_true p324
             replace q324 := eq_true q324
             have ea_ := Option.some.inj (hx323_4.symm.trans hx324_4)
             injection ea_ with ea_ en_ ec_
             subst ea_
             subst ec_
             clear en_
             have p325 : 0 ≤ (x10_2 : Int) := of_decide_eq_true (by first | (with_reducible assumption) | assumption)
             have q325 : x10_2 < (t312.length : Int) := of_decide_eq_true (by first | (with_reducible assumption) | assumption)
             obtain ⟨ad325, A325_4, c325_4, e325, hx325_0, hx325_1, hx325_2, hx325_3, hx325_4, hl325_4, hi325_4⟩ := at_T25 (Kd.N_reads' HO_3.out).2.2 x10_2 p325 q325
             obtain rfl : ad323 = ad325 := (by injection e325)
             obtain ⟨ce325, hce325, hMe325, hcc325⟩ := Kd.N_get HO_3.out z25 x10_2 p325 (by first | exact q325 | exact of_decide_eq_true (by first | (with_reducible assumption) | assumption) | (have e_ := (Kd.N_reads' HO_3.out).1; omega))
             obtain ⟨ua325_4, uc325_4, rfl, ul325_4, ge325_4⟩ := k25_openF hMe325
             have hv325_4 := hcc325 4 _ rfl
             rw [add_field _ _ 4 (by omega)] at hv325_4
             replace hv325_4 := Option.some.inj (hv325_4.symm.trans hx325_4)
             injection hv325_4 with hva_ hvn_ hvc_
             rw [hva_] at ge325_4
             rw [hvc_] at ul325_4
             have HL325_4 := Aside0.mk (show Kd.V k49 49 _ w.heap.size _ _ ((rd_T25 t312 x10_2).f4) from Kd.V_mk ul325_4 ge325_4)
             clear hva_ hvn_ hvc_ ge325_4 ul325_4
             clear hcc325 hce325
             have HR325_4 := Aside0.mk hi325_4
             have HC325_4 := Aside0.mk hl325_4
             clear hi325_4 hl325_4
             replace p325 := eq_true p325
             replace q325 := eq_true q325
             have ea_ := Option.some.inj (hx323_4.symm.trans hx325_4)
             injection ea_ with ea_ en_ ec_
             subst ea_
             subst ec_
             clear en_
             have p329 : 0 ≤ (x10_2 : Int) := of_decide_eq_true (by first | (with_reducible assumption) | assumption)
             have q329 : x10_2 < (t312.length : Int) := of_decide_eq_true (by first | (with_reducible assumption) | assumption)
             obtain ⟨ad329, A329_4, c329_4, e329, hx329_0, hx329_1, hx329_2, hx329_3, hx329_4, hl329_4, hi329_4⟩ := at_T25 (Kd.N_reads' HO_3.out).2.2 x10_2 p329 q329
             obtain rfl : ad323 = ad329 := (by injection e329)
             obtain ⟨ce329, hce329, hMe329, hcc329⟩ := Kd.N_get HO_3.out z25 x10_2 p329 (by first | exact q329 | exact of_decide_eq_true (by first | (with_reducible assumption) | assumption) | (have e_ := (Kd.N_reads' HO_3.out).1; omega))
             obtain ⟨ua329_4, uc329_4, rfl, ul329_4, ge329_4⟩ := k25_openF hMe329
             have hv329_4 := hcc329 4 _ rfl
             rw [add_field _ _ 4 (by omega)] at hv329_4
             replace hv329_4 := Option.some.inj (hv329_4.symm.trans hx329_4)
             injection hv329_4 with hva_ hvn_ hvc_
             rw [hva_] at ge329_4
             rw [hvc_] at ul329_4
             have HL329_4 := Aside0.mk (show Kd.V k49 49 _ w.heap.size _ _ ((rd_T25 t312 x10_2).f4) from Kd.V_mk ul329_4 ge329_4)
             clear hva_ hvn_ hvc_ ge329_4 ul329_4
             clear hcc329 hce329
             have HR329_4 := Aside0.mk hi329_4
             have HC329_4 := Aside0.mk hl329_4
             clear hi329_4 hl329_4
             replace p329 := eq_true p329
             replace q329 := eq_true q329
             have ea_ := Option.some.inj (hx323_4.symm.trans hx329_4)
             injection ea_ with ea_ en_ ec_
             subst ea_
             subst ec_
             clear en_
             go_wp2
             go_ret
             exact ⟨by first | rfl | (simp [errW_none, errW_some] <;> rfl) | (simp [*, errW_none, errW_some] <;> rfl), by repeat (first | (with_reducible first | exact HB.out | apply below_alloc | apply pw_below_drewN | apply below_drew1) | exact HB.out)⟩
         ·rw [if_neg c8] at H
          have c8b0 : (((rd_T25 t312 x10_2).f1) == x7_1) = false := beq_eq_false_iff_ne.mpr c8
          have c8b1 : (((rd_T25 t312 x10_2).f1) != x7_1) = true := bne_iff_ne.mpr c8
          have H' := Aside0.mk H
          clear H
          obtain ⟨Ao18, co18, eo18⟩ := Kd.N_slice HO_3.out
          subst eo18
          have p323 : 0 ≤ (x10_2 : Int) := of_decide_eq_true (by first | (with_reducible assumption) | assumption)
          have q323 : x10_2 < (t312.length : Int) := of_decide_eq_true (by first | (with_reducible assumption) | assumption)
          obtain ⟨ad323, A323_4, c323_4, e323, hx323_0, hx323_1, hx323_2, hx323_3, hx323_4, hl323_4, hi323_4⟩ := at_T25 (Kd.N_reads' HO_3.out).2.2 x10_2 p323 q323
          cases e323
          obtain ⟨ce323, hce323, hMe323, hcc323⟩ := Kd.N_get HO_3.out z25 x10_2 p323 (by first | exact q323 | exact of_decide_eq_true (by first | (with_reducible assumption) | assumption) | (have e_ := (Kd.N_reads' HO_3.out).1; omega))
          obtain ⟨ua323_4, uc323_4, rfl, ul323_4, ge323_4⟩ := k25_openF hMe323
          have hv323_4 := hcc323 4 _ rfl
          rw [add_field _ _ 4 (by omega)] at hv323_4
          replace hv323_4 := Option.some.inj (hv323_4.symm.trans hx323_4)
          injection hv323_4 with hva_ hvn_ hvc_
          rw [hva_] at ge323_4
          rw [hvc_] at ul323_4
          have HL323_4 := Aside0.mk (show Kd.V k49 49 _ w.heap.size _ _ ((rd_T25 t312 x10_2).f4) from Kd.V_mk ul323_4 ge323_4)
          clear hva_ hvn_ hvc_ ge323_4 ul323_4
          clear hcc323 hce323
          have HR323_4 := Aside0.mk hi323_4
          have HC323_4 := Aside0.mk hl323_4
          clear hi323_4 hl323_4
          replace p323 := eq_true p323
          replace q323 := eq_true q323
          go_wp2
          go_roundg k2
          case measure => have := HK1.out; have := HK2.out; omega
          case rel => exact ⟨(x8_2), (x9_2), (wrap64 (x10_2 + 1)), (by first | rfl | (simp; done) | (simp [*]; done)), (by first | rfl | (simp; done) | (simp [*]; done)), (by first | rfl | (simp; done) | (simp [*]; done)), H', ⟨by have := HK1.out; have := HK2.out; omega⟩, ⟨by (with_reducible repeat (first | apply Kd.N_alloc | apply Kd.N_drewN | apply Kd.N_drew)); exact HO_3.out⟩, ⟨by repeat (first | (with_reducible first | exact HB.out | apply below_alloc | apply pw_below_drewN | apply below_drew1) | exact HB.out)⟩⟩
        ·rw [if_neg c7] at H
         exact absurd H (by simp)
       ·rw [if_neg c6] at H
        have c6b0 : decide (x10_2 < (t312.length : Int)) = false := decide_eq_false c6
        clear c6
        have H' := Aside0.mk H
        clear H
        obtain ⟨Ao19, co19, eo19⟩ := Kd.N_slice HO_3.out
        subst eo19
        go_wp2
        go_roundg k2
        case measure => have := HK1.out; have := HK2.out; omega
        case rel => exact ⟨(wrap64 (x7_1 + 1)), (by first | rfl | (simp; done) | (simp [*]; done)), H', ⟨by have := HK1.out; have := HK2.out; omega⟩, ⟨by (with_reducible repeat (first | apply Kd.N_alloc | apply Kd.N_drewN | apply Kd.N_drew)); exact HO_3.out⟩, ⟨by repeat (first | (with_reducible first | exact HB.out | apply below_alloc | apply pw_below_drewN | apply below_drew1) | exact HB.out)⟩⟩
    ·rw [if_neg c5] at H
     have c5b0 : decide (x7_1 ≤ 8) = false := decide_eq_false c5
     clear c5
     replace H := Option.bind_eq_some_iff.mp H
     obtain ⟨t322, A200, H⟩ := H
     replace H : (some t322) = some r := H
     have A20 := Aside0.mk A200
     clear A200
     obtain rfl := Option.some.inj H
     go_wp2_with (((with_reducible refine gate_callee (f := 9) rfl ?_); refine goesL_ (some 71) rfl rfl Try.func9 (by kernel_rfl) rfl #[] rfl (by (try simp only [List.map_toArray, List.map_cons, List.map_nil]); first | done | rfl | (simp only [List.length_drop, List.length_take]; rfl)) ?_; (with_reducible refine (headgatelaw07_awake.calls k1  t322 _ A20.out).mono ?_); rintro e w21 ⟨rfl, hb⟩; refine ⟨_, rfl, ?_⟩; have n0_ := Aside0.mk (Kd.N_below (by (with_reducible repeat (first | apply Kd.N_alloc | apply Kd.N_drewN | apply Kd.N_drew)); exact HO_3.out) hb); have n1_ := Aside0.mk (below_step (by repeat (first | (with_reducible first | exact HB.out | apply below_alloc | apply pw_below_drewN | apply below_drew1) | exact HB.out)) hb); clear HO_3; clear HB; have HO_3 := n0_; have HB := n1_; clear n0_ n1_; (try clear hb); (try clear hb2); (try clear hk); (try clear hi)))
     go_ret
     exact ⟨by first | rfl | (simp [errW_none, errW_some] <;> rfl) | (simp [*, errW_none, errW_some] <;> rfl), by repeat (first | (with_reducible first | exact HB.out | apply below_alloc | apply pw_below_drewN | apply below_drew1) | exact HB.out)⟩
 ·replace c3 := Bool.eq_false_iff.mpr c3
  subst c3
  have H1 : (some false) = some r := by rw [if_neg (show ¬ (false = true) by decide)] at H; exact H
  clear H
  have H := H1
  clear H1
  obtain rfl := Option.some.inj H
  go_enter Try.func5, Try.ntmps5
  go_wp2_with (((with_reducible refine gate_callee (f := 16) rfl ?_); refine goesL_ (some 13) rfl rfl Try.func16 (by kernel_rfl) rfl #[.slice A0 l0.length c0] rfl (by (try simp only [List.map_toArray, List.map_cons, List.map_nil]); first | done | rfl | (simp only [List.length_drop, List.length_take]; rfl)) ?_; (with_reducible refine (headgatelaw07_let.calls k (fun k_ => k_ < w.heap.size) _ _ l0 t312 t315 t318 false _ ?side1 A2.out).mono ?_); (case side1 => exact Kd.V_mk HC0.out (Kd.F_below (Kd.C_F k25_heap HR0.out) (by repeat (first | (with_reducible first | exact HB.out | apply below_alloc | apply pw_below_drewN | apply below_drew1) | exact HB.out)))); rintro e w22 ⟨v313, v316, v319, rfl, ho0, ho1, ho2, hb⟩; refine ⟨_, rfl, ?_⟩; have n0_ := Aside0.mk (Kd.N_lower (Kd.N_mono (ok' := fun k_ => some k_ ≠ (v316 : Value).ownBlock ∧ some k_ ≠ (v319 : Value).ownBlock) ho0 (fun k_ hk_ => ⟨hk_.2.1, hk_.2.2⟩)) (below_size (by repeat (first | (with_reducible first | exact HB.out | apply below_alloc | apply pw_below_drewN | apply below_drew1) | exact HB.out)))); have n1_ := Aside0.mk (Kd.R_lower (Kd.R_mono (ok' := fun k_ => True) ho1 (fun _ hk_ => trivial)) (below_size (by repeat (first | (with_reducible first | exact HB.out | apply below_alloc | apply pw_below_drewN | apply below_drew1) | exact HB.out)))); have n2_ := Aside0.mk (Kd.R_lower (Kd.R_mono (ok' := fun k_ => True) ho2 (fun _ hk_ => trivial)) (below_size (by repeat (first | (with_reducible first | exact HB.out | apply below_alloc | apply pw_below_drewN | apply below_drew1) | exact HB.out)))); have n3_ := Aside0.mk (below_step (by repeat (first | (with_reducible first | exact HB.out | apply below_alloc | apply pw_below_drewN | apply below_drew1) | exact HB.out)) hb); clear HB; have HO314 := n0_; have HO317 := n1_; have HO320 := n2_; have HB := n3_; clear n0_ n1_ n2_ n3_; (try clear hb); (try clear hb2); (try clear hk); (try clear hi); (try clear ho0); (try clear ho1); (try clear ho2)))
  go_ret
  exact ⟨by first | rfl | (simp [errW_none, errW_some] <;> rfl) | (simp [*, errW_none, errW_some] <;> rfl), by repeat (first | (with_reducible first | exact HB.out | apply below_alloc | apply pw_below_drewN | apply below_drew1) | exact HB.out)⟩

/-- THE ONE PURE STATEMENT of headgatelaw07_DedupOnce: yours. -/
def headgatelaw07_DedupOnce.Pure : Prop := ∀ (l0 : List (S25)), (l0.length ≤ 9223372036854775807 ∧ ∀ y_ ∈ l0, wf25 y_) → ∃ k, headgatelaw07_DedupOnce.f k l0 = some true
theorem headgatelaw07_DedupOnce.walk (P : headgatelaw07_DedupOnce.Pure) (A0 : Option Addr) (c0 : Nat) (l0 : List (S25)) (w : World) (hr0 : Kd.C k25 w A0 l0.length l0) (hc0 : l0.length ≤ c0) (w0_ : l0.length ≤ 9223372036854775807 ∧ ∀ y_ ∈ l0, wf25 y_) :
  Calls Try.prog 5 #[.slice A0 l0.length c0] w fun e w' => e = .returned (.bool true) ∧ Below w.heap.size w w' := by
 obtain ⟨k, h⟩ := P l0 w0_
 refine (headgatelaw07_DedupOnce.calls k _ _ l0 true w hr0 hc0 h).mono ?_
 rintro e w' ⟨rfl, hd⟩
 exact ⟨rfl, hd⟩

end Go.Proofs.Ythoegjpcjclbjaa.P
