-- Written by wip/mk.py of this repo: the kit's print program, with contracts of our own among its functions.
import Derived.Test.YtgijangnoekbjaaPx0
import Derived.Test.YtgijangnoekbjaaPx2
import Derived.Test.YtgijangnoekbjaaPx3
namespace Go.Proofs.Ytgijangnoekbjaa.P
open Go.RowKit Go.Proofs.YtgijangnoekbjaaW.PrintWords Go.Proofs.YtgijangnoekbjaaW.PrintLast Go.Proofs.YtgijangnoekbjaaW.PrintMore
attribute [local go_sem] max2_int min2_int max_two min_two max_three min_three max_four min_four   -- for this text's walks alone
set_option linter.unusedVariables false
set_option linter.unusedSimpArgs false

/-! ### headgatelaw29_SketchEnds: function 4 -/
mutual
def headgatelaw29_SketchEnds.j0 : Nat → Int → Int → Int → Int → Bool → Option (Bool)
  | 0, _, _, _, _, _ => none
  | k + 1, x0, x1, x6, x7, x40 => if x40 = true then (some false) else (if x6 ≥ 0 then (if (wrap64 (x7 - x6)) > (wrap64 (Int.tdiv x6 16)) then (headgatelaw29_SketchEnds.j1 k x0 x1 true) else (if x6 < 0 then (if x7 ≥ 0 then (headgatelaw29_SketchEnds.j1 k x0 x1 true) else (headgatelaw29_SketchEnds.j1 k x0 x1 (decide ((wrap64 (x7 - x6)) > (wrap64 ((wrap64 (Int.tdiv (wrap64 ((-1) - x7)) 16)) + 0)))))) else (headgatelaw29_SketchEnds.j1 k x0 x1 false))) else (if x6 < 0 then (if x7 ≥ 0 then (headgatelaw29_SketchEnds.j1 k x0 x1 true) else (headgatelaw29_SketchEnds.j1 k x0 x1 (decide ((wrap64 (x7 - x6)) > (wrap64 ((wrap64 (Int.tdiv (wrap64 ((-1) - x7)) 16)) + 0)))))) else (headgatelaw29_SketchEnds.j1 k x0 x1 false)))
def headgatelaw29_SketchEnds.j1 : Nat → Int → Int → Bool → Option (Bool)
  | 0, _, _, _ => none
  | k + 1, x0, x1, x68 => if x68 = true then (some false) else (if x0 > x1 then ((headgatelaw29_awake.f).bind fun t131 => (some t131)) else ((sketch_Of.f x0).bind fun t132 => ((sketch_Of.f x1).bind fun t133 => (if t132 ≤ t133 then ((headgatelaw29_awake.f).bind fun t134 => (some t134)) else (some false)))))
end
def headgatelaw29_SketchEnds.f (k : Nat) (a0 : Int) (a1 : Int) : Option (Bool) := (sketch_Of.f a0).bind fun t125 => ((sketch_Ends.f t125).bind fun bt126 => (if bt126.2.2 = 0 then (if bt126.1 > a0 then (headgatelaw29_SketchEnds.j0 k a0 a1 bt126.1 bt126.2.1 true) else (if bt126.2.1 < a0 then (headgatelaw29_SketchEnds.j0 k a0 a1 bt126.1 bt126.2.1 true) else ((sketch_Of.f bt126.1).bind fun t129 => (if t129 = t125 then ((sketch_Of.f bt126.2.1).bind fun t130 => (headgatelaw29_SketchEnds.j0 k a0 a1 bt126.1 bt126.2.1 (t130 != t125))) else (headgatelaw29_SketchEnds.j0 k a0 a1 bt126.1 bt126.2.1 true))))) else (headgatelaw29_SketchEnds.j0 k a0 a1 bt126.1 bt126.2.1 true)))
theorem headgatelaw29_SketchEnds.mono_l : ∀ k, (∀ y0 y1 y2 y3 y4, LeO (headgatelaw29_SketchEnds.j0 k y0 y1 y2 y3 y4) (headgatelaw29_SketchEnds.j0 (k + 1) y0 y1 y2 y3 y4)) ∧ (∀ y0 y1 y2, LeO (headgatelaw29_SketchEnds.j1 k y0 y1 y2) (headgatelaw29_SketchEnds.j1 (k + 1) y0 y1 y2))
  | 0 => ⟨fun _ _ _ _ _ r h => by simp [headgatelaw29_SketchEnds.j0] at h, fun _ _ _ r h => by simp [headgatelaw29_SketchEnds.j1] at h⟩
  | k + 1 => by
    obtain ⟨ih0, ih1⟩ := headgatelaw29_SketchEnds.mono_l k
    refine ⟨?_, ?_⟩
    · intro y0 y1 y2 y3 y4
      unfold headgatelaw29_SketchEnds.j0
      repeat' first
      | (with_reducible exact ih0 _ _ _ _ _)
      | (with_reducible exact ih1 _ _ _)
      | (with_reducible exact LeO.refl _)
      | (with_reducible exact LeO.none _)
      | (with_reducible refine LeO.ite ?_ ?_)
      | (with_reducible refine LeO.bind ?_ (fun _ => ?_))
      | exact ih0 _ _ _ _ _
      | exact ih1 _ _ _
      | exact LeO.none _
      | refine LeO.ite ?_ ?_
      | refine LeO.bind ?_ (fun _ => ?_)
    · intro y0 y1 y2
      unfold headgatelaw29_SketchEnds.j1
      repeat' first
      | (with_reducible exact ih0 _ _ _ _ _)
      | (with_reducible exact ih1 _ _ _)
      | (with_reducible exact LeO.refl _)
      | (with_reducible exact LeO.none _)
      | (with_reducible refine LeO.ite ?_ ?_)
      | (with_reducible refine LeO.bind ?_ (fun _ => ?_))
      | exact ih0 _ _ _ _ _
      | exact ih1 _ _ _
      | exact LeO.none _
      | refine LeO.ite ?_ ?_
      | refine LeO.bind ?_ (fun _ => ?_)
theorem headgatelaw29_SketchEnds.mono : ∀ a0 a1 k, LeO (headgatelaw29_SketchEnds.f k a0 a1) (headgatelaw29_SketchEnds.f (k + 1) a0 a1) := by
  intro a0 a1 k
  obtain ⟨ih0, ih1⟩ := headgatelaw29_SketchEnds.mono_l k
  unfold headgatelaw29_SketchEnds.f
  repeat' first
      | (with_reducible exact ih0 _ _ _ _ _)
      | (with_reducible exact ih1 _ _ _)
      | (with_reducible exact LeO.refl _)
      | (with_reducible exact LeO.none _)
      | (with_reducible refine LeO.ite ?_ ?_)
      | (with_reducible refine LeO.bind ?_ (fun _ => ?_))
      | exact ih0 _ _ _ _ _
      | exact ih1 _ _ _
      | exact LeO.none _
      | refine LeO.ite ?_ ?_
      | refine LeO.bind ?_ (fun _ => ?_)
set_option maxHeartbeats 8000000 in
set_option maxRecDepth 100000 in
theorem headgatelaw29_SketchEnds.calls (k : Nat) (a0 : Int) (a1 : Int) (r : Bool) (w : World) (h : headgatelaw29_SketchEnds.f k a0 a1 = some r) :
    Calls Try.prog 4 #[.int .i64 a0, .int .i64 a1] w fun e w' => e = .returned (.bool r) ∧ Below w.heap.size w w' := by
  have HB := Aside0.mk (Below.refl w.heap.size w)
  have H : ((sketch_Of.f a0).bind fun t125 => ((sketch_Ends.f t125).bind fun bt126 => (if bt126.2.2 = 0 then (if bt126.1 > a0 then (headgatelaw29_SketchEnds.j0 k a0 a1 bt126.1 bt126.2.1 true) else (if bt126.2.1 < a0 then (headgatelaw29_SketchEnds.j0 k a0 a1 bt126.1 bt126.2.1 true) else ((sketch_Of.f bt126.1).bind fun t129 => (if t129 = t125 then ((sketch_Of.f bt126.2.1).bind fun t130 => (headgatelaw29_SketchEnds.j0 k a0 a1 bt126.1 bt126.2.1 (t130 != t125))) else (headgatelaw29_SketchEnds.j0 k a0 a1 bt126.1 bt126.2.1 true))))) else (headgatelaw29_SketchEnds.j0 k a0 a1 bt126.1 bt126.2.1 true)))) = some r := h
  clear h
  replace H := Option.bind_eq_some_iff.mp H
  obtain ⟨t125, A30, H⟩ := H
  replace H : ((sketch_Ends.f t125).bind fun bt126 => (if bt126.2.2 = 0 then (if bt126.1 > a0 then (headgatelaw29_SketchEnds.j0 k a0 a1 bt126.1 bt126.2.1 true) else (if bt126.2.1 < a0 then (headgatelaw29_SketchEnds.j0 k a0 a1 bt126.1 bt126.2.1 true) else ((sketch_Of.f bt126.1).bind fun t129 => (if t129 = t125 then ((sketch_Of.f bt126.2.1).bind fun t130 => (headgatelaw29_SketchEnds.j0 k a0 a1 bt126.1 bt126.2.1 (t130 != t125))) else (headgatelaw29_SketchEnds.j0 k a0 a1 bt126.1 bt126.2.1 true))))) else (headgatelaw29_SketchEnds.j0 k a0 a1 bt126.1 bt126.2.1 true))) = some r := H
  have A3 := Aside0.mk A30
  clear A30
  replace H := Option.bind_eq_some_iff.mp H
  obtain ⟨⟨t126, t127, t128⟩, A40, H⟩ := H
  replace H : (if t128 = 0 then (if t126 > a0 then (headgatelaw29_SketchEnds.j0 k a0 a1 t126 t127 true) else (if t127 < a0 then (headgatelaw29_SketchEnds.j0 k a0 a1 t126 t127 true) else ((sketch_Of.f t126).bind fun t129 => (if t129 = t125 then ((sketch_Of.f t127).bind fun t130 => (headgatelaw29_SketchEnds.j0 k a0 a1 t126 t127 (t130 != t125))) else (headgatelaw29_SketchEnds.j0 k a0 a1 t126 t127 true))))) else (headgatelaw29_SketchEnds.j0 k a0 a1 t126 t127 true)) = some r := H
  have A4 := Aside0.mk A40
  clear A40
  have HC5 := Aside0.mk H
  clear H
  go_enter Try.func4, Try.ntmps4
  go_upto_region 3 with (first | ((with_reducible refine gate_callee (f := 13) rfl ?_); refine goesL_ (some 10) rfl rfl Try.func13 (by kernel_rfl) rfl #[.int .i64 a0] rfl (by (try simp only [List.map_toArray, List.map_cons, List.map_nil]); first | done | rfl | (simp only [List.length_drop, List.length_take]; rfl)) ?_; (with_reducible refine (sketch_Of.calls a0 t125 _ A3.out).mono ?_); rintro e w' ⟨rfl, ⟨nd, rfl⟩⟩; refine ⟨_, rfl, ?_⟩) | ((with_reducible refine gate_callee (f := 11) rfl ?_); refine goesL_ (some 13) rfl rfl Try.func11 (by kernel_rfl) rfl #[.int .i64 t125] rfl (by (try simp only [List.map_toArray, List.map_cons, List.map_nil]); first | done | rfl | (simp only [List.length_drop, List.length_take]; rfl)) ?_; (with_reducible refine (sketch_Ends.calls t125 t126 t127 t128 _ A4.out).mono ?_); rintro e w6 ⟨rfl, hb⟩; refine ⟨_, rfl, ?_⟩; have n0_ := Aside0.mk (below_step (by repeat (first | (with_reducible first | exact HB.out | apply below_alloc | apply pw_below_drewN | apply below_drew1) | exact HB.out)) hb); clear HB; have HB := n0_; clear n0_; (try clear hb); (try clear hb2); (try clear hk); (try clear hi)))
  (try simp only [Act.put, List.setIfInBounds_toArray, List.set_cons_zero, List.set_cons_succ])
  go_cut [40] (fun v40 wc => ∃ (kq : Nat) (x40_4 : Bool), v40 = .bool x40_4 ∧ Aside0 (headgatelaw29_SketchEnds.j0 kq a0 a1 t126 t127 x40_4 = some r) ∧ Aside0 (kq ≤ k) ∧ Aside0 (Below w.heap.size w wc))
  case first =>
    have H := HC5.out
    clear HC5
    by_cases c7 : t128 = 0
    · rw [if_pos c7] at H
      have c7b0 : (t128 == 0) = true := beq_iff_eq.mpr c7
      have c7b1 : (t128 != 0) = false := bne_eq_false_iff_eq.mpr c7
      clear c7
      (first | rw [c7b0] | rw [c7b9] | (simp only [i64_w, i32_w]; rw [c7b0]) | skip)
      by_cases c8 : t126 > a0
      · rw [if_pos c8] at H
        have c8b0 : decide (a0 < t126) = true := decide_eq_true c8
        clear c8
        have H' := Aside0.mk H
        clear H
        go_wp2
        go_meet
        case rel => exact ⟨_, (true), (by first | rfl | (simp; done) | (simp [*]; done)), H', ⟨by first | omega | exact Nat.le_refl _⟩, ⟨by repeat (first | (with_reducible first | exact HB.out | apply below_alloc | apply pw_below_drewN | apply below_drew1) | exact HB.out)⟩⟩
      · rw [if_neg c8] at H
        have c8b0 : decide (a0 < t126) = false := decide_eq_false c8
        clear c8
        by_cases c9 : t127 < a0
        · rw [if_pos c9] at H
          have c9b0 : decide (t127 < a0) = true := decide_eq_true c9
          clear c9
          have H' := Aside0.mk H
          clear H
          go_wp2
          go_meet
          case rel => exact ⟨_, (true), (by first | rfl | (simp; done) | (simp [*]; done)), H', ⟨by first | omega | exact Nat.le_refl _⟩, ⟨by repeat (first | (with_reducible first | exact HB.out | apply below_alloc | apply pw_below_drewN | apply below_drew1) | exact HB.out)⟩⟩
        · rw [if_neg c9] at H
          have c9b0 : decide (t127 < a0) = false := decide_eq_false c9
          clear c9
          replace H := Option.bind_eq_some_iff.mp H
          obtain ⟨t129, A100, H⟩ := H
          replace H : (if t129 = t125 then ((sketch_Of.f t127).bind fun t130 => (headgatelaw29_SketchEnds.j0 k a0 a1 t126 t127 (t130 != t125))) else (headgatelaw29_SketchEnds.j0 k a0 a1 t126 t127 true)) = some r := H
          have A10 := Aside0.mk A100
          clear A100
          by_cases c11 : t129 = t125
          · rw [if_pos c11] at H
            have c11b0 : (t129 == t125) = true := beq_iff_eq.mpr c11
            have c11b1 : (t129 != t125) = false := bne_eq_false_iff_eq.mpr c11
            clear c11
            replace H := Option.bind_eq_some_iff.mp H
            obtain ⟨t130, A120, H⟩ := H
            replace H : (headgatelaw29_SketchEnds.j0 k a0 a1 t126 t127 (t130 != t125)) = some r := H
            have A12 := Aside0.mk A120
            clear A120
            have H' := Aside0.mk H
            clear H
            go_wp2_with (first | (go_at_call 13; (with_reducible refine (sketch_Of.calls t126 t129 _ A10.out).mono ?_); rintro e w' ⟨rfl, ⟨nd, rfl⟩⟩) | (go_at_call 13; (with_reducible refine (sketch_Of.calls t127 t130 _ A12.out).mono ?_); rintro e w' ⟨rfl, ⟨nd, rfl⟩⟩))
            go_meet
            case rel => exact ⟨_, ((t130 != t125)), (by first | rfl | (simp; done) | (simp [*]; done)), H', ⟨by first | omega | exact Nat.le_refl _⟩, ⟨by repeat (first | (with_reducible first | exact HB.out | apply below_alloc | apply pw_below_drewN | apply below_drew1) | exact HB.out)⟩⟩
          · rw [if_neg c11] at H
            have c11b0 : (t129 == t125) = false := beq_eq_false_iff_ne.mpr c11
            have c11b1 : (t129 != t125) = true := bne_iff_ne.mpr c11
            have H' := Aside0.mk H
            clear H
            go_wp2_with (first | (go_at_call 13; (with_reducible refine (sketch_Of.calls t126 t129 _ A10.out).mono ?_); rintro e w' ⟨rfl, ⟨nd, rfl⟩⟩))
            go_meet
            case rel => exact ⟨_, (true), (by first | rfl | (simp; done) | (simp [*]; done)), H', ⟨by first | omega | exact Nat.le_refl _⟩, ⟨by repeat (first | (with_reducible first | exact HB.out | apply below_alloc | apply pw_below_drewN | apply below_drew1) | exact HB.out)⟩⟩
    · rw [if_neg c7] at H
      have c7b0 : (t128 == 0) = false := beq_eq_false_iff_ne.mpr c7
      have c7b1 : (t128 != 0) = true := bne_iff_ne.mpr c7
      (first | rw [c7b0] | rw [c7b9] | (simp only [i64_w, i32_w]; rw [c7b0]) | skip)
      have H' := Aside0.mk H
      clear H
      go_wp2
      go_meet
      case rel => exact ⟨_, (true), (by first | rfl | (simp; done) | (simp [*]; done)), H', ⟨by first | omega | exact Nat.le_refl _⟩, ⟨by repeat (first | (with_reducible first | exact HB.out | apply below_alloc | apply pw_below_drewN | apply below_drew1) | exact HB.out)⟩⟩
  case rest =>
    clear HC5
    try clear c1
    try clear p2
    try clear c4
    try clear c7
    try clear c7b0
    try clear c7b1
    try clear c8
    try clear c8b0
    try clear c9
    try clear c9b0
    try clear c11
    try clear c11b0
    try clear c11b1
    obtain ⟨kq, x40_4, rfl, HA, HJ4, HB⟩ := hcut
    cases kq with
    | zero => exact absurd HA.out (by simp [headgatelaw29_SketchEnds.j0])
    | succ kj4 =>
      have H := HA.out
      clear HA
      simp only [headgatelaw29_SketchEnds.j0] at H
      by_cases c13 : x40_4 = true
      · subst c13
        have H1 : (some false) = some r := by rw [if_pos rfl] at H; exact H
        clear H
        have H := H1
        clear H1
        obtain rfl := Option.some.inj H
        go_wp2
        go_ret
        exact ⟨by first | rfl | (simp [errW_none, errW_some] <;> rfl) | (simp [*, errW_none, errW_some] <;> rfl), by repeat (first | (with_reducible first | exact HB.out | apply below_alloc | apply pw_below_drewN | apply below_drew1) | exact HB.out)⟩
      · replace c13 := Bool.eq_false_iff.mpr c13
        subst c13
        have H1 : (if t126 ≥ 0 then (if (wrap64 (t127 - t126)) > (wrap64 (Int.tdiv t126 16)) then (headgatelaw29_SketchEnds.j1 kj4 a0 a1 true) else (if t126 < 0 then (if t127 ≥ 0 then (headgatelaw29_SketchEnds.j1 kj4 a0 a1 true) else (headgatelaw29_SketchEnds.j1 kj4 a0 a1 (decide ((wrap64 (t127 - t126)) > (wrap64 ((wrap64 (Int.tdiv (wrap64 ((-1) - t127)) 16)) + 0)))))) else (headgatelaw29_SketchEnds.j1 kj4 a0 a1 false))) else (if t126 < 0 then (if t127 ≥ 0 then (headgatelaw29_SketchEnds.j1 kj4 a0 a1 true) else (headgatelaw29_SketchEnds.j1 kj4 a0 a1 (decide ((wrap64 (t127 - t126)) > (wrap64 ((wrap64 (Int.tdiv (wrap64 ((-1) - t127)) 16)) + 0)))))) else (headgatelaw29_SketchEnds.j1 kj4 a0 a1 false))) = some r := by rw [if_neg (show ¬ (false = true) by decide)] at H; exact H
        clear H
        have H := H1
        clear H1
        have HC14 := Aside0.mk H
        clear H
        go_upto_region 5 with (fail)
        go_cut [68] (fun v68 wc => ∃ (kq : Nat) (x68_13 : Bool), v68 = .bool x68_13 ∧ Aside0 (headgatelaw29_SketchEnds.j1 kq a0 a1 x68_13 = some r) ∧ Aside0 (kq ≤ kj4) ∧ Aside0 (Below w.heap.size w wc))
        case first =>
          have H := HC14.out
          clear HC14
          by_cases c15 : t126 ≥ 0
          · rw [if_pos c15] at H
            have c15b0 : decide (0 ≤ t126) = true := decide_eq_true c15
            clear c15
            (first | rw [c15b0] | rw [c15b9] | (simp only [i64_w, i32_w]; rw [c15b0]) | skip)
            by_cases c16 : (wrap64 (t127 - t126)) > (wrap64 (Int.tdiv t126 16))
            · rw [if_pos c16] at H
              have c16b0 : decide ((wrap64 (Int.tdiv t126 16)) < (wrap64 (t127 - t126))) = true := decide_eq_true c16
              clear c16
              have H' := Aside0.mk H
              clear H
              go_wp2
              go_meet
              case rel => exact ⟨_, (true), (by first | rfl | (simp; done) | (simp [*]; done)), H', ⟨by have := HJ4.out; first | omega | exact Nat.le_refl _⟩, ⟨by repeat (first | (with_reducible first | exact HB.out | apply below_alloc | apply pw_below_drewN | apply below_drew1) | exact HB.out)⟩⟩
            · rw [if_neg c16] at H
              have c16b0 : decide ((wrap64 (Int.tdiv t126 16)) < (wrap64 (t127 - t126))) = false := decide_eq_false c16
              clear c16
              by_cases c17 : t126 < 0
              · rw [if_pos c17] at H
                have c17b0 : decide (t126 < 0) = true := decide_eq_true c17
                clear c17
                by_cases c18 : t127 ≥ 0
                · rw [if_pos c18] at H
                  have c18b0 : decide (0 ≤ t127) = true := decide_eq_true c18
                  clear c18
                  have H' := Aside0.mk H
                  clear H
                  go_wp2
                  go_meet
                  case rel => exact ⟨_, (true), (by first | rfl | (simp; done) | (simp [*]; done)), H', ⟨by have := HJ4.out; first | omega | exact Nat.le_refl _⟩, ⟨by repeat (first | (with_reducible first | exact HB.out | apply below_alloc | apply pw_below_drewN | apply below_drew1) | exact HB.out)⟩⟩
                · rw [if_neg c18] at H
                  have c18b0 : decide (0 ≤ t127) = false := decide_eq_false c18
                  clear c18
                  have H' := Aside0.mk H
                  clear H
                  go_wp2
                  go_meet
                  case rel => exact ⟨_, (decide ((wrap64 (t127 - t126)) > (wrap64 ((wrap64 (Int.tdiv (wrap64 ((-1) - t127)) 16)) + 0)))), (by first | rfl | (simp; done) | (simp [*]; done)), H', ⟨by have := HJ4.out; first | omega | exact Nat.le_refl _⟩, ⟨by repeat (first | (with_reducible first | exact HB.out | apply below_alloc | apply pw_below_drewN | apply below_drew1) | exact HB.out)⟩⟩
              · rw [if_neg c17] at H
                have c17b0 : decide (t126 < 0) = false := decide_eq_false c17
                clear c17
                have H' := Aside0.mk H
                clear H
                go_wp2
                go_meet
                case rel => exact ⟨_, (false), (by first | rfl | (simp; done) | (simp [*]; done)), H', ⟨by have := HJ4.out; first | omega | exact Nat.le_refl _⟩, ⟨by repeat (first | (with_reducible first | exact HB.out | apply below_alloc | apply pw_below_drewN | apply below_drew1) | exact HB.out)⟩⟩
          · rw [if_neg c15] at H
            have c15b0 : decide (0 ≤ t126) = false := decide_eq_false c15
            clear c15
            (first | rw [c15b0] | rw [c15b9] | (simp only [i64_w, i32_w]; rw [c15b0]) | skip)
            by_cases c19 : t126 < 0
            · rw [if_pos c19] at H
              have c19b0 : decide (t126 < 0) = true := decide_eq_true c19
              clear c19
              by_cases c20 : t127 ≥ 0
              · rw [if_pos c20] at H
                have c20b0 : decide (0 ≤ t127) = true := decide_eq_true c20
                clear c20
                have H' := Aside0.mk H
                clear H
                go_wp2
                go_meet
                case rel => exact ⟨_, (true), (by first | rfl | (simp; done) | (simp [*]; done)), H', ⟨by have := HJ4.out; first | omega | exact Nat.le_refl _⟩, ⟨by repeat (first | (with_reducible first | exact HB.out | apply below_alloc | apply pw_below_drewN | apply below_drew1) | exact HB.out)⟩⟩
              · rw [if_neg c20] at H
                have c20b0 : decide (0 ≤ t127) = false := decide_eq_false c20
                clear c20
                have H' := Aside0.mk H
                clear H
                go_wp2
                go_meet
                case rel => exact ⟨_, (decide ((wrap64 (t127 - t126)) > (wrap64 ((wrap64 (Int.tdiv (wrap64 ((-1) - t127)) 16)) + 0)))), (by first | rfl | (simp; done) | (simp [*]; done)), H', ⟨by have := HJ4.out; first | omega | exact Nat.le_refl _⟩, ⟨by repeat (first | (with_reducible first | exact HB.out | apply below_alloc | apply pw_below_drewN | apply below_drew1) | exact HB.out)⟩⟩
            · rw [if_neg c19] at H
              have c19b0 : decide (t126 < 0) = false := decide_eq_false c19
              clear c19
              have H' := Aside0.mk H
              clear H
              go_wp2
              go_meet
              case rel => exact ⟨_, (false), (by first | rfl | (simp; done) | (simp [*]; done)), H', ⟨by have := HJ4.out; first | omega | exact Nat.le_refl _⟩, ⟨by repeat (first | (with_reducible first | exact HB.out | apply below_alloc | apply pw_below_drewN | apply below_drew1) | exact HB.out)⟩⟩
        case rest =>
          clear HC14
          try clear c1
          try clear c2
          try clear p2
          try clear c4
          try clear p6
          try clear c7
          try clear c7b0
          try clear c7b1
          try clear c8
          try clear c8b0
          try clear c9
          try clear c9b0
          try clear c11
          try clear c11b0
          try clear c11b1
          try clear c13
          try clear c15
          try clear c15b0
          try clear c16
          try clear c16b0
          try clear c17
          try clear c17b0
          try clear c18
          try clear c18b0
          try clear c19
          try clear c19b0
          try clear c20
          try clear c20b0
          try clear p2
          obtain ⟨kq, x68_13, rfl, HA, HJ13, HB⟩ := hcut
          cases kq with
          | zero => exact absurd HA.out (by simp [headgatelaw29_SketchEnds.j1])
          | succ kj13 =>
            have H := HA.out
            clear HA
            simp only [headgatelaw29_SketchEnds.j1] at H
            by_cases c21 : x68_13 = true
            · subst c21
              have H1 : (some false) = some r := by rw [if_pos rfl] at H; exact H
              clear H
              have H := H1
              clear H1
              obtain rfl := Option.some.inj H
              go_wp2
              go_ret
              exact ⟨by first | rfl | (simp [errW_none, errW_some] <;> rfl) | (simp [*, errW_none, errW_some] <;> rfl), by repeat (first | (with_reducible first | exact HB.out | apply below_alloc | apply pw_below_drewN | apply below_drew1) | exact HB.out)⟩
            · replace c21 := Bool.eq_false_iff.mpr c21
              subst c21
              have H1 : (if a0 > a1 then ((headgatelaw29_awake.f).bind fun t131 => (some t131)) else ((sketch_Of.f a0).bind fun t132 => ((sketch_Of.f a1).bind fun t133 => (if t132 ≤ t133 then ((headgatelaw29_awake.f).bind fun t134 => (some t134)) else (some false))))) = some r := by rw [if_neg (show ¬ (false = true) by decide)] at H; exact H
              clear H
              have H := H1
              clear H1
              by_cases c22 : a0 > a1
              · rw [if_pos c22] at H
                have c22b0 : decide (a1 < a0) = true := decide_eq_true c22
                clear c22
                replace H := Option.bind_eq_some_iff.mp H
                obtain ⟨t131, A230, H⟩ := H
                replace H : (some t131) = some r := H
                have A23 := Aside0.mk A230
                clear A230
                obtain rfl := Option.some.inj H
                go_wp2_with (first | (go_at_call 15; (with_reducible refine (headgatelaw29_awake.calls  t131 _ A23.out).mono ?_); rintro e w24 ⟨rfl, hb⟩; have n0_ := Aside0.mk (below_step (by repeat (first | (with_reducible first | exact HB.out | apply below_alloc | apply pw_below_drewN | apply below_drew1) | exact HB.out)) hb); clear HB; have HB := n0_; clear n0_; (try clear hb); (try clear hb2); (try clear hk); (try clear hi)))
                go_ret
                exact ⟨by first | rfl | (simp [errW_none, errW_some] <;> rfl) | (simp [*, errW_none, errW_some] <;> rfl), by repeat (first | (with_reducible first | exact HB.out | apply below_alloc | apply pw_below_drewN | apply below_drew1) | exact HB.out)⟩
              · rw [if_neg c22] at H
                have c22b0 : decide (a1 < a0) = false := decide_eq_false c22
                clear c22
                replace H := Option.bind_eq_some_iff.mp H
                obtain ⟨t132, A250, H⟩ := H
                replace H : ((sketch_Of.f a1).bind fun t133 => (if t132 ≤ t133 then ((headgatelaw29_awake.f).bind fun t134 => (some t134)) else (some false))) = some r := H
                have A25 := Aside0.mk A250
                clear A250
                replace H := Option.bind_eq_some_iff.mp H
                obtain ⟨t133, A260, H⟩ := H
                replace H : (if t132 ≤ t133 then ((headgatelaw29_awake.f).bind fun t134 => (some t134)) else (some false)) = some r := H
                have A26 := Aside0.mk A260
                clear A260
                by_cases c27 : t132 ≤ t133
                · rw [if_pos c27] at H
                  have c27b0 : decide (t132 ≤ t133) = true := decide_eq_true c27
                  clear c27
                  replace H := Option.bind_eq_some_iff.mp H
                  obtain ⟨t134, A280, H⟩ := H
                  replace H : (some t134) = some r := H
                  have A28 := Aside0.mk A280
                  clear A280
                  obtain rfl := Option.some.inj H
                  go_wp2_with (first | (go_at_call 13; (with_reducible refine (sketch_Of.calls a0 t132 _ A25.out).mono ?_); rintro e w' ⟨rfl, ⟨nd, rfl⟩⟩) | (go_at_call 13; (with_reducible refine (sketch_Of.calls a1 t133 _ A26.out).mono ?_); rintro e w' ⟨rfl, ⟨nd, rfl⟩⟩) | (go_at_call 15; (with_reducible refine (headgatelaw29_awake.calls  t134 _ A28.out).mono ?_); rintro e w29 ⟨rfl, hb⟩; have n0_ := Aside0.mk (below_step (by repeat (first | (with_reducible first | exact HB.out | apply below_alloc | apply pw_below_drewN | apply below_drew1) | exact HB.out)) hb); clear HB; have HB := n0_; clear n0_; (try clear hb); (try clear hb2); (try clear hk); (try clear hi)))
                  go_ret
                  exact ⟨by first | rfl | (simp [errW_none, errW_some] <;> rfl) | (simp [*, errW_none, errW_some] <;> rfl), by repeat (first | (with_reducible first | exact HB.out | apply below_alloc | apply pw_below_drewN | apply below_drew1) | exact HB.out)⟩
                · rw [if_neg c27] at H
                  have c27b0 : decide (t132 ≤ t133) = false := decide_eq_false c27
                  clear c27
                  obtain rfl := Option.some.inj H
                  go_wp2_with (first | (go_at_call 13; (with_reducible refine (sketch_Of.calls a0 t132 _ A25.out).mono ?_); rintro e w' ⟨rfl, ⟨nd, rfl⟩⟩) | (go_at_call 13; (with_reducible refine (sketch_Of.calls a1 t133 _ A26.out).mono ?_); rintro e w' ⟨rfl, ⟨nd, rfl⟩⟩))
                  go_ret
                  exact ⟨by first | rfl | (simp [errW_none, errW_some] <;> rfl) | (simp [*, errW_none, errW_some] <;> rfl), by repeat (first | (with_reducible first | exact HB.out | apply below_alloc | apply pw_below_drewN | apply below_drew1) | exact HB.out)⟩

/-- THE ONE PURE STATEMENT of headgatelaw29_SketchEnds: yours. -/
def headgatelaw29_SketchEnds.Pure : Prop := ∀ (a0 : Int) (a1 : Int), (Lit.int .i64 a0).wf = true → (Lit.int .i64 a1).wf = true → ∃ k, headgatelaw29_SketchEnds.f k a0 a1 = some true
theorem headgatelaw29_SketchEnds.walk (P : headgatelaw29_SketchEnds.Pure) (a0 : Int) (a1 : Int) (w : World) (w0 : (Lit.int .i64 a0).wf = true) (w1 : (Lit.int .i64 a1).wf = true) :
    Calls Try.prog 4 #[.int .i64 a0, .int .i64 a1] w fun e w' => e = .returned (.bool true) ∧ Below w.heap.size w w' := by
  obtain ⟨k, h⟩ := P a0 a1 w0 w1
  refine (headgatelaw29_SketchEnds.calls k a0 a1 true w h).mono ?_
  rintro e w' ⟨rfl, hd⟩
  exact ⟨rfl, hd⟩

/-! ### headgatelaw29_light: function 16 -/
def headgatelaw29_light.f (l0 : List (S61)) : Option (Bool) := some (decide ((l0.length : Int) ≤ 200))
set_option maxHeartbeats 8000000 in
set_option maxRecDepth 100000 in
theorem headgatelaw29_light.calls (A0 : Option Addr) (c0 : Nat) (l0 : List (S61)) (r : Bool) (w : World) (hr0 : Kd.C k61 w A0 l0.length l0) (hc0 : l0.length ≤ c0) (h : headgatelaw29_light.f l0 = some r) :
    Calls Try.prog 16 #[.slice A0 l0.length c0] w fun e w' => e = .returned (.bool r) ∧ Drawn0 w w' := by
  have HR0 := Aside0.mk hr0
  have HC0 := Aside0.mk hc0
  clear hr0 hc0
  have H : (some (decide ((l0.length : Int) ≤ 200))) = some r := h
  clear h
  obtain rfl := Option.some.inj H
  go_enter Try.func16, Try.ntmps16
  go_wp2
  go_ret
  exact ⟨by first | rfl | (simp; done) | (simp [*]; done), by repeat (first | exact Drawn0.refl _ | apply Drawn0.step)⟩

end Go.Proofs.Ytgijangnoekbjaa.P
