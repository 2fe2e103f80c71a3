-- Written by wip/mk.py of this repo: the kit's print program, with contracts of our own among its functions.
import Derived.Test.YtgijangnoekbjaaPx0
import Derived.Test.YtgijangnoekbjaaPx2
import Derived.Test.YtgijangnoekbjaaPx3
import Derived.Test.YtgijangnoekbjaaPx5
namespace Go.Proofs.Ytgijangnoekbjaa.P
open Go.RowKit Go.Proofs.YtgijangnoekbjaaW.PrintWords Go.Proofs.YtgijangnoekbjaaW.PrintLast Go.Proofs.YtgijangnoekbjaaW.PrintMore
attribute [local go_sem] max2_int min2_int max_two min_two max_three min_three max_four min_four   -- for this text's walks alone
set_option linter.unusedVariables false
set_option linter.unusedSimpArgs false

/-! ### headgateref29_Count: function 28 -/
def headgateref29_Count.l0 : Nat → List (S61) → Int → Int → Option (Int)
  | 0, _, _, _ => none
  | k + 1, x0, x3, x4 => if x4 < (x0.length : Int) then (if 0 ≤ x4 then (headgateref29_Count.l0 k x0 (wrap64 (x3 + ((rd_T61 x0 x4).f1))) (wrap64 (x4 + 1))) else (none)) else (some x3)
def headgateref29_Count.f (k : Nat) (l0 : List (S61)) : Option (Int) := (headgateref29_May.f k l0).bind fun t155 => (if t155 = true then (headgateref29_Count.l0 k l0 0 0) else (some 0))
theorem headgateref29_Count.mono_l : ∀ k, (∀ y0 y1 y2, LeO (headgateref29_Count.l0 k y0 y1 y2) (headgateref29_Count.l0 (k + 1) y0 y1 y2))
  | 0 => fun _ _ _ r h => by simp [headgateref29_Count.l0] at h
  | k + 1 => by
    have ih0 := headgateref29_Count.mono_l k
    · intro y0 y1 y2
      unfold headgateref29_Count.l0
      repeat' first
      | (with_reducible exact ih0 _ _ _)
      | (with_reducible exact headgateref29_May.mono _ _)
      | (with_reducible exact LeO.refl _)
      | (with_reducible exact LeO.none _)
      | (with_reducible refine LeO.ite ?_ ?_)
      | (with_reducible refine LeO.bind ?_ (fun _ => ?_))
      | exact ih0 _ _ _
      | exact headgateref29_May.mono _ _
      | exact LeO.none _
      | refine LeO.ite ?_ ?_
      | refine LeO.bind ?_ (fun _ => ?_)
theorem headgateref29_Count.mono : ∀ a0 k, LeO (headgateref29_Count.f k a0) (headgateref29_Count.f (k + 1) a0) := by
  intro a0 k
  have ih0 := headgateref29_Count.mono_l k
  unfold headgateref29_Count.f
  repeat' first
      | (with_reducible exact ih0 _ _ _)
      | (with_reducible exact headgateref29_May.mono _ _)
      | (with_reducible exact LeO.refl _)
      | (with_reducible exact LeO.none _)
      | (with_reducible refine LeO.ite ?_ ?_)
      | (with_reducible refine LeO.bind ?_ (fun _ => ?_))
      | exact ih0 _ _ _
      | exact headgateref29_May.mono _ _
      | exact LeO.none _
      | refine LeO.ite ?_ ?_
      | refine LeO.bind ?_ (fun _ => ?_)
set_option maxHeartbeats 8000000 in
set_option maxRecDepth 100000 in
theorem headgateref29_Count.calls (k : Nat) (A0 : Option Addr) (c0 : Nat) (l0 : List (S61)) (r : Int) (w : World) (hr0 : Kd.C k61 w A0 l0.length l0) (hc0 : l0.length ≤ c0) (h : headgateref29_Count.f k l0 = some r) :
    Calls Try.prog 28 #[.slice A0 l0.length c0] w fun e w' => e = .returned (.int .i64 r) ∧ Drawn0 w w' := by
  have HR0 := Aside0.mk hr0
  have HC0 := Aside0.mk hc0
  clear hr0 hc0
  have H : ((headgateref29_May.f k l0).bind fun t155 => (if t155 = true then (headgateref29_Count.l0 k l0 0 0) else (some 0))) = some r := h
  clear h
  replace H := Option.bind_eq_some_iff.mp H
  obtain ⟨t155, A20, H⟩ := H
  replace H : (if t155 = true then (headgateref29_Count.l0 k l0 0 0) else (some 0)) = some r := H
  have A2 := Aside0.mk A20
  clear A20
  by_cases c3 : t155 = true
  · subst c3
    have H1 : (headgateref29_Count.l0 k l0 0 0) = some r := by rw [if_pos rfl] at H; exact H
    clear H
    have H := H1
    clear H1
    have H' := Aside0.mk H
    clear H
    go_enter Try.func28, Try.ntmps28
    go_wp2_with (first | ((with_reducible refine gate_callee (f := 30) rfl ?_); refine goesL_ (some 6) rfl rfl Try.func30 (by kernel_rfl) rfl #[.slice A0 l0.length c0] rfl (by (try simp only [List.map_toArray, List.map_cons, List.map_nil]); first | done | rfl | (simp only [List.length_drop, List.length_take]; rfl)) ?_; (with_reducible refine (headgateref29_May.calls k _ _ l0 true _ ?side1 ?side2 A2.out).mono ?_); (case side1 => repeat (first | exact HR0.out | (with_reducible refine Kd.C_alloc ?_ _) | (with_reducible refine Kd.C_drewN ?_ _) | (with_reducible refine Kd.C_drew ?_))); (case side2 => exact HC0.out); rintro e w' ⟨rfl, ⟨nd, rfl⟩⟩; refine ⟨_, rfl, ?_⟩))
    go_loopg [3, 4] k (fun kq v3 v4 w' => ∃ (x3_1 : Int) (x4_1 : Int), v3 = .int .i64 x3_1 ∧ v4 = .int .i64 x4_1 ∧ Aside0 (headgateref29_Count.l0 kq l0 x3_1 x4_1 = some r) ∧ Aside0 (kq ≤ k) ∧ Drawn0 w w')
    case atStart => exact ⟨(0), (0), (by first | rfl | (simp; done) | (simp [*]; done)), (by first | rfl | (simp; done) | (simp [*]; done)), H', ⟨Nat.le_refl _⟩, by repeat (first | exact Drawn0.refl _ | apply Drawn0.step)⟩
    case round =>
      clear H'
      try clear c2
      try clear p2
      try clear c3
      obtain ⟨x3_1, x4_1, rfl, rfl, HA, HK1, ⟨m1, rfl⟩⟩ := hrel
      cases gk with
      | zero => exact absurd HA.out (by simp [headgateref29_Count.l0])
      | succ k1 =>
        have H := HA.out
        clear HA
        simp only [headgateref29_Count.l0] at H
        by_cases c4 : x4_1 < (l0.length : Int)
        · rw [if_pos c4] at H
          have c4b0 : decide (x4_1 < (l0.length : Int)) = true := decide_eq_true c4
          clear c4
          by_cases c5 : 0 ≤ x4_1
          · rw [if_pos c5] at H
            have c5b0 : decide (0 ≤ x4_1) = true := decide_eq_true c5
            clear c5
            have H' := Aside0.mk H
            clear H
            have p156 : 0 ≤ (x4_1 : Int) := of_decide_eq_true (by first | (with_reducible assumption) | assumption)
            have q156 : x4_1 < (l0.length : Int) := of_decide_eq_true (by first | (with_reducible assumption) | assumption)
            obtain ⟨ad156, e156, hx156_0, hx156_1⟩ := at_T61 HR0.out x4_1 p156 q156
            cases e156
            replace p156 := eq_true p156
            replace q156 := eq_true q156
            go_wp2
            go_roundg k1
            case measure => have := HK1.out; omega
            case rel => exact ⟨(wrap64 (x3_1 + ((rd_T61 l0 x4_1).f1))), (wrap64 (x4_1 + 1)), (by first | rfl | (simp; done) | (simp [*]; done)), (by first | rfl | (simp; done) | (simp [*]; done)), H', ⟨by have := HK1.out; omega⟩, by repeat (first | exact Drawn0.refl _ | apply Drawn0.step)⟩
          · rw [if_neg c5] at H
            exact absurd H (by simp)
        · rw [if_neg c4] at H
          have c4b0 : decide (x4_1 < (l0.length : Int)) = false := decide_eq_false c4
          clear c4
          obtain rfl := Option.some.inj H
          go_wp2
          go_ret
          exact ⟨by first | rfl | (simp; done) | (simp [*]; done), by repeat (first | exact Drawn0.refl _ | apply Drawn0.step)⟩
  · replace c3 := Bool.eq_false_iff.mpr c3
    subst c3
    have H1 : (some 0) = some r := by rw [if_neg (show ¬ (false = true) by decide)] at H; exact H
    clear H
    have H := H1
    clear H1
    obtain rfl := Option.some.inj H
    go_enter Try.func28, Try.ntmps28
    go_wp2_with (first | ((with_reducible refine gate_callee (f := 30) rfl ?_); refine goesL_ (some 6) rfl rfl Try.func30 (by kernel_rfl) rfl #[.slice A0 l0.length c0] rfl (by (try simp only [List.map_toArray, List.map_cons, List.map_nil]); first | done | rfl | (simp only [List.length_drop, List.length_take]; rfl)) ?_; (with_reducible refine (headgateref29_May.calls k _ _ l0 false _ ?side1 ?side2 A2.out).mono ?_); (case side1 => repeat (first | exact HR0.out | (with_reducible refine Kd.C_alloc ?_ _) | (with_reducible refine Kd.C_drewN ?_ _) | (with_reducible refine Kd.C_drew ?_))); (case side2 => exact HC0.out); rintro e w' ⟨rfl, ⟨nd, rfl⟩⟩; refine ⟨_, rfl, ?_⟩))
    go_ret
    exact ⟨by first | rfl | (simp; done) | (simp [*]; done), by repeat (first | exact Drawn0.refl _ | apply Drawn0.step)⟩

/-! ### headgateref29_Rank: function 33 -/
def headgateref29_Rank.f (a0 : Int) (a1 : Int) (a2 : Int) : Option (Int) := if a2 = 0 then (none) else (if (Int.tmod (wrap64 ((Int.tmod a0 a2) * a1)) a2) > 0 then (if (wrap64 ((wrap64 ((wrap64 ((wrap64 (Int.tdiv a0 a2)) * a1)) + (wrap64 (Int.tdiv (wrap64 ((Int.tmod a0 a2) * a1)) a2)))) + 1)) < 1 then (some 1) else (some (wrap64 ((wrap64 ((wrap64 ((wrap64 (Int.tdiv a0 a2)) * a1)) + (wrap64 (Int.tdiv (wrap64 ((Int.tmod a0 a2) * a1)) a2)))) + 1)))) else (if (wrap64 ((wrap64 ((wrap64 (Int.tdiv a0 a2)) * a1)) + (wrap64 (Int.tdiv (wrap64 ((Int.tmod a0 a2) * a1)) a2)))) < 1 then (some 1) else (some (wrap64 ((wrap64 ((wrap64 (Int.tdiv a0 a2)) * a1)) + (wrap64 (Int.tdiv (wrap64 ((Int.tmod a0 a2) * a1)) a2)))))))
set_option maxHeartbeats 8000000 in
set_option maxRecDepth 100000 in
theorem headgateref29_Rank.calls (a0 : Int) (a1 : Int) (a2 : Int) (r : Int) (w : World) (h : headgateref29_Rank.f a0 a1 a2 = some r) :
    Calls Try.prog 33 #[.int .i64 a0, .int .i64 a1, .int .i64 a2] w fun e w' => e = .returned (.int .i64 r) ∧ Drawn0 w w' := by
  have H : (if a2 = 0 then (none) else (if (Int.tmod (wrap64 ((Int.tmod a0 a2) * a1)) a2) > 0 then (if (wrap64 ((wrap64 ((wrap64 ((wrap64 (Int.tdiv a0 a2)) * a1)) + (wrap64 (Int.tdiv (wrap64 ((Int.tmod a0 a2) * a1)) a2)))) + 1)) < 1 then (some 1) else (some (wrap64 ((wrap64 ((wrap64 ((wrap64 (Int.tdiv a0 a2)) * a1)) + (wrap64 (Int.tdiv (wrap64 ((Int.tmod a0 a2) * a1)) a2)))) + 1)))) else (if (wrap64 ((wrap64 ((wrap64 (Int.tdiv a0 a2)) * a1)) + (wrap64 (Int.tdiv (wrap64 ((Int.tmod a0 a2) * a1)) a2)))) < 1 then (some 1) else (some (wrap64 ((wrap64 ((wrap64 (Int.tdiv a0 a2)) * a1)) + (wrap64 (Int.tdiv (wrap64 ((Int.tmod a0 a2) * a1)) a2)))))))) = some r := h
  clear h
  by_cases c4 : a2 = 0
  · rw [if_pos c4] at H
    exact absurd H (by simp)
  · rw [if_neg c4] at H
    have c4b0 : (a2 == 0) = false := beq_eq_false_iff_ne.mpr c4
    have c4b1 : (a2 != 0) = true := bne_iff_ne.mpr c4
    by_cases c5 : (Int.tmod (wrap64 ((Int.tmod a0 a2) * a1)) a2) > 0
    · rw [if_pos c5] at H
      have c5b0 : decide (0 < (Int.tmod (wrap64 ((Int.tmod a0 a2) * a1)) a2)) = true := decide_eq_true c5
      clear c5
      by_cases c6 : (wrap64 ((wrap64 ((wrap64 ((wrap64 (Int.tdiv a0 a2)) * a1)) + (wrap64 (Int.tdiv (wrap64 ((Int.tmod a0 a2) * a1)) a2)))) + 1)) < 1
      · rw [if_pos c6] at H
        have c6b0 : decide ((wrap64 ((wrap64 ((wrap64 ((wrap64 (Int.tdiv a0 a2)) * a1)) + (wrap64 (Int.tdiv (wrap64 ((Int.tmod a0 a2) * a1)) a2)))) + 1)) < 1) = true := decide_eq_true c6
        clear c6
        obtain rfl := Option.some.inj H
        go_enter Try.func33, Try.ntmps33
        go_wp2
        go_ret
        exact ⟨by first | rfl | (simp; done) | (simp [*]; done), by repeat (first | exact Drawn0.refl _ | apply Drawn0.step)⟩
      · rw [if_neg c6] at H
        have c6b0 : decide ((wrap64 ((wrap64 ((wrap64 ((wrap64 (Int.tdiv a0 a2)) * a1)) + (wrap64 (Int.tdiv (wrap64 ((Int.tmod a0 a2) * a1)) a2)))) + 1)) < 1) = false := decide_eq_false c6
        clear c6
        obtain rfl := Option.some.inj H
        go_enter Try.func33, Try.ntmps33
        go_wp2
        go_ret
        exact ⟨by first | rfl | (simp; done) | (simp [*]; done), by repeat (first | exact Drawn0.refl _ | apply Drawn0.step)⟩
    · rw [if_neg c5] at H
      have c5b0 : decide (0 < (Int.tmod (wrap64 ((Int.tmod a0 a2) * a1)) a2)) = false := decide_eq_false c5
      clear c5
      by_cases c7 : (wrap64 ((wrap64 ((wrap64 (Int.tdiv a0 a2)) * a1)) + (wrap64 (Int.tdiv (wrap64 ((Int.tmod a0 a2) * a1)) a2)))) < 1
      · rw [if_pos c7] at H
        have c7b0 : decide ((wrap64 ((wrap64 ((wrap64 (Int.tdiv a0 a2)) * a1)) + (wrap64 (Int.tdiv (wrap64 ((Int.tmod a0 a2) * a1)) a2)))) < 1) = true := decide_eq_true c7
        clear c7
        obtain rfl := Option.some.inj H
        go_enter Try.func33, Try.ntmps33
        go_wp2
        go_ret
        exact ⟨by first | rfl | (simp; done) | (simp [*]; done), by repeat (first | exact Drawn0.refl _ | apply Drawn0.step)⟩
      · rw [if_neg c7] at H
        have c7b0 : decide ((wrap64 ((wrap64 ((wrap64 (Int.tdiv a0 a2)) * a1)) + (wrap64 (Int.tdiv (wrap64 ((Int.tmod a0 a2) * a1)) a2)))) < 1) = false := decide_eq_false c7
        clear c7
        obtain rfl := Option.some.inj H
        go_enter Try.func33, Try.ntmps33
        go_wp2
        go_ret
        exact ⟨by first | rfl | (simp; done) | (simp [*]; done), by repeat (first | exact Drawn0.refl _ | apply Drawn0.step)⟩

/-! ### headgateref29_Quantile: function 18 -/
mutual
def headgateref29_Quantile.j0 : Nat → List (S61) → Int → Int → Bool → Option (Int × Int)
  | 0, _, _, _, _ => none
  | k + 1, x0, x1, x2, x29 => if x29 = true then (some (0, 1)) else (if (x0.length : Int) = 0 then (some (0, 3)) else ((headgateref29_Count.f k x0).bind fun t158 => ((headgateref29_Rank.f t158 x1 x2).bind fun t159 => (headgateref29_Quantile.l0 k x0 t159 0))))
def headgateref29_Quantile.l0 : Nat → List (S61) → Int → Int → Option (Int × Int)
  | 0, _, _, _ => none
  | k + 1, x0, x8, x9 => if 0 ≤ x9 then (if x9 < (x0.length : Int) then (if x8 > ((rd_T61 x0 x9).f1) then (headgateref29_Quantile.l0 k x0 (wrap64 (x8 - ((rd_T61 x0 x9).f1))) (wrap64 (x9 + 1))) else (some ((rd_T61 x0 x9).f0, 0))) else (none)) else (none)
end
def headgateref29_Quantile.f (k : Nat) (l0 : List (S61)) (a1 : Int) (a2 : Int) : Option (Int × Int) := (headgateref29_May.f k l0).bind fun t157 => (if t157 = true then (if a2 < 1 then (headgateref29_Quantile.j0 k l0 a1 a2 true) else (if a2 > 1000000 then (headgateref29_Quantile.j0 k l0 a1 a2 true) else (if a1 < 0 then (headgateref29_Quantile.j0 k l0 a1 a2 true) else (headgateref29_Quantile.j0 k l0 a1 a2 (decide (a1 > a2)))))) else (headgateref29_Quantile.j0 k l0 a1 a2 true))
theorem headgateref29_Quantile.mono_l : ∀ k, (∀ y0 y1 y2 y3, LeO (headgateref29_Quantile.j0 k y0 y1 y2 y3) (headgateref29_Quantile.j0 (k + 1) y0 y1 y2 y3)) ∧ (∀ y0 y1 y2, LeO (headgateref29_Quantile.l0 k y0 y1 y2) (headgateref29_Quantile.l0 (k + 1) y0 y1 y2))
  | 0 => ⟨fun _ _ _ _ r h => by simp [headgateref29_Quantile.j0] at h, fun _ _ _ r h => by simp [headgateref29_Quantile.l0] at h⟩
  | k + 1 => by
    obtain ⟨ih0, ih1⟩ := headgateref29_Quantile.mono_l k
    refine ⟨?_, ?_⟩
    · intro y0 y1 y2 y3
      unfold headgateref29_Quantile.j0
      repeat' first
      | (with_reducible exact ih0 _ _ _ _)
      | (with_reducible exact ih1 _ _ _)
      | (with_reducible exact headgateref29_Count.mono _ _)
      | (with_reducible exact headgateref29_May.mono _ _)
      | (with_reducible exact LeO.refl _)
      | (with_reducible exact LeO.none _)
      | (with_reducible refine LeO.ite ?_ ?_)
      | (with_reducible refine LeO.bind ?_ (fun _ => ?_))
      | exact ih0 _ _ _ _
      | exact ih1 _ _ _
      | exact headgateref29_Count.mono _ _
      | exact headgateref29_May.mono _ _
      | exact LeO.none _
      | refine LeO.ite ?_ ?_
      | refine LeO.bind ?_ (fun _ => ?_)
    · intro y0 y1 y2
      unfold headgateref29_Quantile.l0
      repeat' first
      | (with_reducible exact ih0 _ _ _ _)
      | (with_reducible exact ih1 _ _ _)
      | (with_reducible exact headgateref29_Count.mono _ _)
      | (with_reducible exact headgateref29_May.mono _ _)
      | (with_reducible exact LeO.refl _)
      | (with_reducible exact LeO.none _)
      | (with_reducible refine LeO.ite ?_ ?_)
      | (with_reducible refine LeO.bind ?_ (fun _ => ?_))
      | exact ih0 _ _ _ _
      | exact ih1 _ _ _
      | exact headgateref29_Count.mono _ _
      | exact headgateref29_May.mono _ _
      | exact LeO.none _
      | refine LeO.ite ?_ ?_
      | refine LeO.bind ?_ (fun _ => ?_)
theorem headgateref29_Quantile.mono : ∀ a0 a1 a2 k, LeO (headgateref29_Quantile.f k a0 a1 a2) (headgateref29_Quantile.f (k + 1) a0 a1 a2) := by
  intro a0 a1 a2 k
  obtain ⟨ih0, ih1⟩ := headgateref29_Quantile.mono_l k
  unfold headgateref29_Quantile.f
  repeat' first
      | (with_reducible exact ih0 _ _ _ _)
      | (with_reducible exact ih1 _ _ _)
      | (with_reducible exact headgateref29_Count.mono _ _)
      | (with_reducible exact headgateref29_May.mono _ _)
      | (with_reducible exact LeO.refl _)
      | (with_reducible exact LeO.none _)
      | (with_reducible refine LeO.ite ?_ ?_)
      | (with_reducible refine LeO.bind ?_ (fun _ => ?_))
      | exact ih0 _ _ _ _
      | exact ih1 _ _ _
      | exact headgateref29_Count.mono _ _
      | exact headgateref29_May.mono _ _
      | exact LeO.none _
      | refine LeO.ite ?_ ?_
      | refine LeO.bind ?_ (fun _ => ?_)
set_option maxHeartbeats 8000000 in
set_option maxRecDepth 100000 in
theorem headgateref29_Quantile.calls (k : Nat) (A0 : Option Addr) (c0 : Nat) (l0 : List (S61)) (a1 : Int) (a2 : Int) (r1 : Int) (r2 : Int) (w : World) (hr0 : Kd.C k61 w A0 l0.length l0) (hc0 : l0.length ≤ c0) (h : headgateref29_Quantile.f k l0 a1 a2 = some (r1, r2)) :
    Calls Try.prog 18 #[.slice A0 l0.length c0, .int .i64 a1, .int .i64 a2] w fun e w' => e = .returned (.tuple #[.int .i64 r1, .int .i64 r2]) ∧ Drawn0 w w' := by
  have HR0 := Aside0.mk hr0
  have HC0 := Aside0.mk hc0
  clear hr0 hc0
  have H : ((headgateref29_May.f k l0).bind fun t157 => (if t157 = true then (if a2 < 1 then (headgateref29_Quantile.j0 k l0 a1 a2 true) else (if a2 > 1000000 then (headgateref29_Quantile.j0 k l0 a1 a2 true) else (if a1 < 0 then (headgateref29_Quantile.j0 k l0 a1 a2 true) else (headgateref29_Quantile.j0 k l0 a1 a2 (decide (a1 > a2)))))) else (headgateref29_Quantile.j0 k l0 a1 a2 true))) = some (r1, r2) := h
  clear h
  have HC4 := Aside0.mk H
  clear H
  go_enter Try.func18, Try.ntmps18
  go_upto_region 1 with (fail)
  go_cut [29] (fun v29 wc => ∃ (kq : Nat) (x29_3 : Bool), v29 = .bool x29_3 ∧ Aside0 (headgateref29_Quantile.j0 kq l0 a1 a2 x29_3 = some (r1, r2)) ∧ Aside0 (kq ≤ k) ∧ Drawn0 w wc)
  case first =>
    have H := HC4.out
    clear HC4
    replace H := Option.bind_eq_some_iff.mp H
    obtain ⟨t157, A50, H⟩ := H
    replace H : (if t157 = true then (if a2 < 1 then (headgateref29_Quantile.j0 k l0 a1 a2 true) else (if a2 > 1000000 then (headgateref29_Quantile.j0 k l0 a1 a2 true) else (if a1 < 0 then (headgateref29_Quantile.j0 k l0 a1 a2 true) else (headgateref29_Quantile.j0 k l0 a1 a2 (decide (a1 > a2)))))) else (headgateref29_Quantile.j0 k l0 a1 a2 true)) = some (r1, r2) := H
    have A5 := Aside0.mk A50
    clear A50
    by_cases c6 : t157 = true
    · subst c6
      have H1 : (if a2 < 1 then (headgateref29_Quantile.j0 k l0 a1 a2 true) else (if a2 > 1000000 then (headgateref29_Quantile.j0 k l0 a1 a2 true) else (if a1 < 0 then (headgateref29_Quantile.j0 k l0 a1 a2 true) else (headgateref29_Quantile.j0 k l0 a1 a2 (decide (a1 > a2)))))) = some (r1, r2) := by rw [if_pos rfl] at H; exact H
      clear H
      have H := H1
      clear H1
      by_cases c7 : a2 < 1
      · rw [if_pos c7] at H
        have c7b0 : decide (a2 < 1) = true := decide_eq_true c7
        clear c7
        (first | rw [c7b0] | (simp only [i64_w, i32_w]; rw [c7b0]) | skip)
        have H' := Aside0.mk H
        clear H
        go_wp2_with (first | ((with_reducible refine gate_callee (f := 30) rfl ?_); refine goesL_ (some 11) rfl rfl Try.func30 (by kernel_rfl) rfl #[.slice A0 l0.length c0] rfl (by (try simp only [List.map_toArray, List.map_cons, List.map_nil]); first | done | rfl | (simp only [List.length_drop, List.length_take]; rfl)) ?_; (with_reducible refine (headgateref29_May.calls k _ _ l0 true _ ?side1 ?side2 A5.out).mono ?_); (case side1 => repeat (first | exact HR0.out | (with_reducible refine Kd.C_alloc ?_ _) | (with_reducible refine Kd.C_drewN ?_ _) | (with_reducible refine Kd.C_drew ?_))); (case side2 => exact HC0.out); rintro e w' ⟨rfl, ⟨nd, rfl⟩⟩; refine ⟨_, rfl, ?_⟩))
        go_meet
        case rel => exact ⟨_, (true), (by first | rfl | (simp; done) | (simp [*]; done)), H', ⟨by first | omega | exact Nat.le_refl _⟩, by repeat (first | exact Drawn0.refl _ | apply Drawn0.step)⟩
      · rw [if_neg c7] at H
        have c7b0 : decide (a2 < 1) = false := decide_eq_false c7
        clear c7
        (first | rw [c7b0] | (simp only [i64_w, i32_w]; rw [c7b0]) | skip)
        by_cases c8 : a2 > 1000000
        · rw [if_pos c8] at H
          have c8b0 : decide (1000000 < a2) = true := decide_eq_true c8
          clear c8
          have H' := Aside0.mk H
          clear H
          go_wp2_with (first | ((with_reducible refine gate_callee (f := 30) rfl ?_); refine goesL_ (some 11) rfl rfl Try.func30 (by kernel_rfl) rfl #[.slice A0 l0.length c0] rfl (by (try simp only [List.map_toArray, List.map_cons, List.map_nil]); first | done | rfl | (simp only [List.length_drop, List.length_take]; rfl)) ?_; (with_reducible refine (headgateref29_May.calls k _ _ l0 true _ ?side1 ?side2 A5.out).mono ?_); (case side1 => repeat (first | exact HR0.out | (with_reducible refine Kd.C_alloc ?_ _) | (with_reducible refine Kd.C_drewN ?_ _) | (with_reducible refine Kd.C_drew ?_))); (case side2 => exact HC0.out); rintro e w' ⟨rfl, ⟨nd, rfl⟩⟩; refine ⟨_, rfl, ?_⟩))
          go_meet
          case rel => exact ⟨_, (true), (by first | rfl | (simp; done) | (simp [*]; done)), H', ⟨by first | omega | exact Nat.le_refl _⟩, by repeat (first | exact Drawn0.refl _ | apply Drawn0.step)⟩
        · rw [if_neg c8] at H
          have c8b0 : decide (1000000 < a2) = false := decide_eq_false c8
          clear c8
          by_cases c9 : a1 < 0
          · rw [if_pos c9] at H
            have c9b0 : decide (a1 < 0) = true := decide_eq_true c9
            clear c9
            have H' := Aside0.mk H
            clear H
            go_wp2_with (first | ((with_reducible refine gate_callee (f := 30) rfl ?_); refine goesL_ (some 11) rfl rfl Try.func30 (by kernel_rfl) rfl #[.slice A0 l0.length c0] rfl (by (try simp only [List.map_toArray, List.map_cons, List.map_nil]); first | done | rfl | (simp only [List.length_drop, List.length_take]; rfl)) ?_; (with_reducible refine (headgateref29_May.calls k _ _ l0 true _ ?side1 ?side2 A5.out).mono ?_); (case side1 => repeat (first | exact HR0.out | (with_reducible refine Kd.C_alloc ?_ _) | (with_reducible refine Kd.C_drewN ?_ _) | (with_reducible refine Kd.C_drew ?_))); (case side2 => exact HC0.out); rintro e w' ⟨rfl, ⟨nd, rfl⟩⟩; refine ⟨_, rfl, ?_⟩))
            go_meet
            case rel => exact ⟨_, (true), (by first | rfl | (simp; done) | (simp [*]; done)), H', ⟨by first | omega | exact Nat.le_refl _⟩, by repeat (first | exact Drawn0.refl _ | apply Drawn0.step)⟩
          · rw [if_neg c9] at H
            have c9b0 : decide (a1 < 0) = false := decide_eq_false c9
            clear c9
            have H' := Aside0.mk H
            clear H
            go_wp2_with (first | ((with_reducible refine gate_callee (f := 30) rfl ?_); refine goesL_ (some 11) rfl rfl Try.func30 (by kernel_rfl) rfl #[.slice A0 l0.length c0] rfl (by (try simp only [List.map_toArray, List.map_cons, List.map_nil]); first | done | rfl | (simp only [List.length_drop, List.length_take]; rfl)) ?_; (with_reducible refine (headgateref29_May.calls k _ _ l0 true _ ?side1 ?side2 A5.out).mono ?_); (case side1 => repeat (first | exact HR0.out | (with_reducible refine Kd.C_alloc ?_ _) | (with_reducible refine Kd.C_drewN ?_ _) | (with_reducible refine Kd.C_drew ?_))); (case side2 => exact HC0.out); rintro e w' ⟨rfl, ⟨nd, rfl⟩⟩; refine ⟨_, rfl, ?_⟩))
            go_meet
            case rel => exact ⟨_, (decide (a1 > a2)), (by first | rfl | (simp; done) | (simp [*]; done)), H', ⟨by first | omega | exact Nat.le_refl _⟩, by repeat (first | exact Drawn0.refl _ | apply Drawn0.step)⟩
    · replace c6 := Bool.eq_false_iff.mpr c6
      subst c6
      have H1 : (headgateref29_Quantile.j0 k l0 a1 a2 true) = some (r1, r2) := by rw [if_neg (show ¬ (false = true) by decide)] at H; exact H
      clear H
      have H := H1
      clear H1
      have H' := Aside0.mk H
      clear H
      go_wp2_with (first | ((with_reducible refine gate_callee (f := 30) rfl ?_); refine goesL_ (some 11) rfl rfl Try.func30 (by kernel_rfl) rfl #[.slice A0 l0.length c0] rfl (by (try simp only [List.map_toArray, List.map_cons, List.map_nil]); first | done | rfl | (simp only [List.length_drop, List.length_take]; rfl)) ?_; (with_reducible refine (headgateref29_May.calls k _ _ l0 false _ ?side1 ?side2 A5.out).mono ?_); (case side1 => repeat (first | exact HR0.out | (with_reducible refine Kd.C_alloc ?_ _) | (with_reducible refine Kd.C_drewN ?_ _) | (with_reducible refine Kd.C_drew ?_))); (case side2 => exact HC0.out); rintro e w' ⟨rfl, ⟨nd, rfl⟩⟩; refine ⟨_, rfl, ?_⟩))
      go_meet
      case rel => exact ⟨_, (true), (by first | rfl | (simp; done) | (simp [*]; done)), H', ⟨by first | omega | exact Nat.le_refl _⟩, by repeat (first | exact Drawn0.refl _ | apply Drawn0.step)⟩
  case rest =>
    clear HC4
    try clear c1
    try clear p2
    try clear c3
    try clear c6
    try clear c7
    try clear c7b0
    try clear c8
    try clear c8b0
    try clear c9
    try clear c9b0
    obtain ⟨kq, x29_3, rfl, HA, HJ3, ⟨mc3, rfl⟩⟩ := hcut
    cases kq with
    | zero => exact absurd HA.out (by simp [headgateref29_Quantile.j0])
    | succ kj3 =>
      have H := HA.out
      clear HA
      simp only [headgateref29_Quantile.j0] at H
      by_cases c10 : x29_3 = true
      · subst c10
        have H1 : (some (0, 1)) = some (r1, r2) := by rw [if_pos rfl] at H; exact H
        clear H
        have H := H1
        clear H1
        simp only [Option.some.injEq, Prod.mk.injEq] at H
        obtain ⟨rfl, rfl⟩ := H
        go_wp2
        go_ret2
        exact ⟨by first | rfl | (simp; done) | (simp [*]; done), by repeat (first | exact Drawn0.refl _ | apply Drawn0.step)⟩
      · replace c10 := Bool.eq_false_iff.mpr c10
        subst c10
        have H1 : (if (l0.length : Int) = 0 then (some (0, 3)) else ((headgateref29_Count.f kj3 l0).bind fun t158 => ((headgateref29_Rank.f t158 a1 a2).bind fun t159 => (headgateref29_Quantile.l0 kj3 l0 t159 0)))) = some (r1, r2) := by rw [if_neg (show ¬ (false = true) by decide)] at H; exact H
        clear H
        have H := H1
        clear H1
        by_cases c11 : (l0.length : Int) = 0
        · rw [if_pos c11] at H
          have c11b0 : ((l0.length : Int) == 0) = true := beq_iff_eq.mpr c11
          have c11b1 : ((l0.length : Int) != 0) = false := bne_eq_false_iff_eq.mpr c11
          clear c11
          simp only [Option.some.injEq, Prod.mk.injEq] at H
          obtain ⟨rfl, rfl⟩ := H
          go_wp2
          go_ret2
          exact ⟨by first | rfl | (simp; done) | (simp [*]; done), by repeat (first | exact Drawn0.refl _ | apply Drawn0.step)⟩
        · rw [if_neg c11] at H
          have c11b0 : ((l0.length : Int) == 0) = false := beq_eq_false_iff_ne.mpr c11
          have c11b1 : ((l0.length : Int) != 0) = true := bne_iff_ne.mpr c11
          have c11b2 : ¬ (l0 = []) := fun h_ => c11 (by rw [h_]; rfl)
          replace H := Option.bind_eq_some_iff.mp H
          obtain ⟨t158, A120, H⟩ := H
          replace H : ((headgateref29_Rank.f t158 a1 a2).bind fun t159 => (headgateref29_Quantile.l0 kj3 l0 t159 0)) = some (r1, r2) := H
          have A12 := Aside0.mk A120
          clear A120
          replace H := Option.bind_eq_some_iff.mp H
          obtain ⟨t159, A130, H⟩ := H
          replace H : (headgateref29_Quantile.l0 kj3 l0 t159 0) = some (r1, r2) := H
          have A13 := Aside0.mk A130
          clear A130
          have H' := Aside0.mk H
          clear H
          go_wp2_with (first | ((with_reducible refine gate_callee (f := 28) rfl ?_); refine goesL_ (some 34) rfl rfl Try.func28 (by kernel_rfl) rfl #[.slice A0 l0.length c0] rfl (by (try simp only [List.map_toArray, List.map_cons, List.map_nil]); first | done | rfl | (simp only [List.length_drop, List.length_take]; rfl)) ?_; (with_reducible refine (headgateref29_Count.calls kj3 _ _ l0 t158 _ ?side1 ?side2 A12.out).mono ?_); (case side1 => repeat (first | exact HR0.out | (with_reducible refine Kd.C_alloc ?_ _) | (with_reducible refine Kd.C_drewN ?_ _) | (with_reducible refine Kd.C_drew ?_))); (case side2 => exact HC0.out); rintro e w' ⟨rfl, ⟨nd, rfl⟩⟩; refine ⟨_, rfl, ?_⟩) | ((with_reducible refine gate_callee (f := 33) rfl ?_); refine goesL_ (some 37) rfl rfl Try.func33 (by kernel_rfl) rfl #[.int .i64 t158, .int .i64 a1, .int .i64 a2] rfl (by (try simp only [List.map_toArray, List.map_cons, List.map_nil]); first | done | rfl | (simp only [List.length_drop, List.length_take]; rfl)) ?_; (with_reducible refine (headgateref29_Rank.calls t158 a1 a2 t159 _ A13.out).mono ?_); rintro e w' ⟨rfl, ⟨nd, rfl⟩⟩; refine ⟨_, rfl, ?_⟩))
          go_loopg [8, 9] kj3 (fun kq v8 v9 w' => ∃ (x8_2 : Int) (x9_2 : Int), v8 = .int .i64 x8_2 ∧ v9 = .int .i64 x9_2 ∧ Aside0 (headgateref29_Quantile.l0 kq l0 x8_2 x9_2 = some (r1, r2)) ∧ Aside0 (kq ≤ kj3) ∧ Drawn0 w w')
          case atStart => exact ⟨(t159), (0), (by first | rfl | (simp; done) | (simp [*]; done)), (by first | rfl | (simp; done) | (simp [*]; done)), H', ⟨Nat.le_refl _⟩, by repeat (first | exact Drawn0.refl _ | apply Drawn0.step)⟩
          case round =>
            clear H'
            try clear c1
            try clear c2
            try clear p2
            try clear c3
            try clear c6
            try clear c7
            try clear c7b0
            try clear c8
            try clear c8b0
            try clear c9
            try clear c9b0
            try clear c10
            try clear c11
            try clear c11b0
            try clear c11b1
            try clear c11b2
            try clear p2
            obtain ⟨x8_2, x9_2, rfl, rfl, HA, HK2, ⟨m2, rfl⟩⟩ := hrel
            cases gk with
            | zero => exact absurd HA.out (by simp [headgateref29_Quantile.l0])
            | succ k2 =>
              have H := HA.out
              clear HA
              simp only [headgateref29_Quantile.l0] at H
              by_cases c14 : 0 ≤ x9_2
              · rw [if_pos c14] at H
                have c14b0 : decide (0 ≤ x9_2) = true := decide_eq_true c14
                clear c14
                by_cases c15 : x9_2 < (l0.length : Int)
                · rw [if_pos c15] at H
                  have c15b0 : decide (x9_2 < (l0.length : Int)) = true := decide_eq_true c15
                  clear c15
                  by_cases c16 : x8_2 > ((rd_T61 l0 x9_2).f1)
                  · rw [if_pos c16] at H
                    have c16b0 : decide (((rd_T61 l0 x9_2).f1) < x8_2) = true := decide_eq_true c16
                    clear c16
                    have H' := Aside0.mk H
                    clear H
                    have p160 : 0 ≤ (x9_2 : Int) := of_decide_eq_true (by first | (with_reducible assumption) | assumption)
                    have q160 : x9_2 < (l0.length : Int) := of_decide_eq_true (by first | (with_reducible assumption) | assumption)
                    obtain ⟨ad160, e160, hx160_0, hx160_1⟩ := at_T61 HR0.out x9_2 p160 q160
                    cases e160
                    replace p160 := eq_true p160
                    replace q160 := eq_true q160
                    have p161 : 0 ≤ (x9_2 : Int) := of_decide_eq_true (by first | (with_reducible assumption) | assumption)
                    have q161 : x9_2 < (l0.length : Int) := of_decide_eq_true (by first | (with_reducible assumption) | assumption)
                    obtain ⟨ad161, e161, hx161_0, hx161_1⟩ := at_T61 HR0.out x9_2 p161 q161
                    obtain rfl : ad160 = ad161 := (by injection e161)
                    replace p161 := eq_true p161
                    replace q161 := eq_true q161
                    go_wp2
                    go_roundg k2
                    case measure => have := HJ3.out; have := HK2.out; omega
                    case rel => exact ⟨(wrap64 (x8_2 - ((rd_T61 l0 x9_2).f1))), (wrap64 (x9_2 + 1)), (by first | rfl | (simp; done) | (simp [*]; done)), (by first | rfl | (simp; done) | (simp [*]; done)), H', ⟨by have := HJ3.out; have := HK2.out; omega⟩, by repeat (first | exact Drawn0.refl _ | apply Drawn0.step)⟩
                  · rw [if_neg c16] at H
                    have c16b0 : decide (((rd_T61 l0 x9_2).f1) < x8_2) = false := decide_eq_false c16
                    clear c16
                    simp only [Option.some.injEq, Prod.mk.injEq] at H
                    obtain ⟨rfl, rfl⟩ := H
                    have p160 : 0 ≤ (x9_2 : Int) := of_decide_eq_true (by first | (with_reducible assumption) | assumption)
                    have q160 : x9_2 < (l0.length : Int) := of_decide_eq_true (by first | (with_reducible assumption) | assumption)
                    obtain ⟨ad160, e160, hx160_0, hx160_1⟩ := at_T61 HR0.out x9_2 p160 q160
                    cases e160
                    replace p160 := eq_true p160
                    replace q160 := eq_true q160
                    have p162 : 0 ≤ (x9_2 : Int) := of_decide_eq_true (by first | (with_reducible assumption) | assumption)
                    have q162 : x9_2 < (l0.length : Int) := of_decide_eq_true (by first | (with_reducible assumption) | assumption)
                    obtain ⟨ad162, e162, hx162_0, hx162_1⟩ := at_T61 HR0.out x9_2 p162 q162
                    obtain rfl : ad160 = ad162 := (by injection e162)
                    replace p162 := eq_true p162
                    replace q162 := eq_true q162
                    go_wp2
                    go_ret2
                    exact ⟨by first | rfl | (simp; done) | (simp [*]; done), by repeat (first | exact Drawn0.refl _ | apply Drawn0.step)⟩
                · rw [if_neg c15] at H
                  exact absurd H (by simp)
              · rw [if_neg c14] at H
                exact absurd H (by simp)

/-! ### headgatelaw29_SketchQuantiles: function 5 -/
def headgatelaw29_SketchQuantiles.f (k : Nat) (l0 : List (S61)) (a1 : Int) (a2 : Int) : Option (Bool) := (headgatelaw29_light.f l0).bind fun t163 => (if t163 = true then ((sketch_Quantile.f k l0 a1 a2).bind fun bt164 => ((headgateref29_Quantile.f k l0 a1 a2).bind fun bt166 => (if bt164.1 = bt166.1 then (if bt164.2 = bt166.2 then ((headgatelaw29_awake.f).bind fun t168 => (some t168)) else (some false)) else (some false)))) else ((headgatelaw29_awake.f).bind fun t169 => (some t169)))
theorem headgatelaw29_SketchQuantiles.mono : ∀ a0 a1 a2 k, LeO (headgatelaw29_SketchQuantiles.f k a0 a1 a2) (headgatelaw29_SketchQuantiles.f (k + 1) a0 a1 a2) := by
  intro a0 a1 a2 k
  unfold headgatelaw29_SketchQuantiles.f
  repeat' first
      | (with_reducible exact headgateref29_Quantile.mono _ _ _ _)
      | (with_reducible exact sketch_Quantile.mono _ _ _ _)
      | (with_reducible exact LeO.refl _)
      | (with_reducible exact LeO.none _)
      | (with_reducible refine LeO.ite ?_ ?_)
      | (with_reducible refine LeO.bind ?_ (fun _ => ?_))
      | exact headgateref29_Quantile.mono _ _ _ _
      | exact sketch_Quantile.mono _ _ _ _
      | exact LeO.none _
      | refine LeO.ite ?_ ?_
      | refine LeO.bind ?_ (fun _ => ?_)
set_option maxHeartbeats 8000000 in
set_option maxRecDepth 100000 in
theorem headgatelaw29_SketchQuantiles.calls (k : Nat) (A0 : Option Addr) (c0 : Nat) (l0 : List (S61)) (a1 : Int) (a2 : Int) (r : Bool) (w : World) (hr0 : Kd.C k61 w A0 l0.length l0) (hc0 : l0.length ≤ c0) (h : headgatelaw29_SketchQuantiles.f k l0 a1 a2 = some r) :
    Calls Try.prog 5 #[.slice A0 l0.length c0, .int .i64 a1, .int .i64 a2] w fun e w' => e = .returned (.bool r) ∧ Below w.heap.size w w' := by
  have HR0 := Aside0.mk hr0
  have HC0 := Aside0.mk hc0
  clear hr0 hc0
  have HB := Aside0.mk (Below.refl w.heap.size w)
  have H : ((headgatelaw29_light.f l0).bind fun t163 => (if t163 = true then ((sketch_Quantile.f k l0 a1 a2).bind fun bt164 => ((headgateref29_Quantile.f k l0 a1 a2).bind fun bt166 => (if bt164.1 = bt166.1 then (if bt164.2 = bt166.2 then ((headgatelaw29_awake.f).bind fun t168 => (some t168)) else (some false)) else (some false)))) else ((headgatelaw29_awake.f).bind fun t169 => (some t169)))) = some r := h
  clear h
  replace H := Option.bind_eq_some_iff.mp H
  obtain ⟨t163, A40, H⟩ := H
  replace H : (if t163 = true then ((sketch_Quantile.f k l0 a1 a2).bind fun bt164 => ((headgateref29_Quantile.f k l0 a1 a2).bind fun bt166 => (if bt164.1 = bt166.1 then (if bt164.2 = bt166.2 then ((headgatelaw29_awake.f).bind fun t168 => (some t168)) else (some false)) else (some false)))) else ((headgatelaw29_awake.f).bind fun t169 => (some t169))) = some r := H
  have A4 := Aside0.mk A40
  clear A40
  by_cases c5 : t163 = true
  · subst c5
    have H1 : ((sketch_Quantile.f k l0 a1 a2).bind fun bt164 => ((headgateref29_Quantile.f k l0 a1 a2).bind fun bt166 => (if bt164.1 = bt166.1 then (if bt164.2 = bt166.2 then ((headgatelaw29_awake.f).bind fun t168 => (some t168)) else (some false)) else (some false)))) = some r := by rw [if_pos rfl] at H; exact H
    clear H
    have H := H1
    clear H1
    replace H := Option.bind_eq_some_iff.mp H
    obtain ⟨⟨t164, t165⟩, A60, H⟩ := H
    replace H : ((headgateref29_Quantile.f k l0 a1 a2).bind fun bt166 => (if t164 = bt166.1 then (if t165 = bt166.2 then ((headgatelaw29_awake.f).bind fun t168 => (some t168)) else (some false)) else (some false))) = some r := H
    have A6 := Aside0.mk A60
    clear A60
    replace H := Option.bind_eq_some_iff.mp H
    obtain ⟨⟨t166, t167⟩, A70, H⟩ := H
    replace H : (if t164 = t166 then (if t165 = t167 then ((headgatelaw29_awake.f).bind fun t168 => (some t168)) else (some false)) else (some false)) = some r := H
    have A7 := Aside0.mk A70
    clear A70
    by_cases c8 : t164 = t166
    · rw [if_pos c8] at H
      have c8b0 : (t164 == t166) = true := beq_iff_eq.mpr c8
      have c8b1 : (t164 != t166) = false := bne_eq_false_iff_eq.mpr c8
      clear c8
      by_cases c9 : t165 = t167
      · rw [if_pos c9] at H
        have c9b0 : (t165 == t167) = true := beq_iff_eq.mpr c9
        have c9b1 : (t165 != t167) = false := bne_eq_false_iff_eq.mpr c9
        clear c9
        replace H := Option.bind_eq_some_iff.mp H
        obtain ⟨t168, A100, H⟩ := H
        replace H : (some t168) = some r := H
        have A10 := Aside0.mk A100
        clear A100
        obtain rfl := Option.some.inj H
        go_enter Try.func5, Try.ntmps5
        go_wp2_with (first | ((with_reducible refine gate_callee (f := 16) rfl ?_); refine goesL_ (some 12) rfl rfl Try.func16 (by kernel_rfl) rfl #[.slice A0 l0.length c0] rfl (by (try simp only [List.map_toArray, List.map_cons, List.map_nil]); first | done | rfl | (simp only [List.length_drop, List.length_take]; rfl)) ?_; (with_reducible refine (headgatelaw29_light.calls _ _ l0 true _ ?side1 ?side2 A4.out).mono ?_); (case side1 => repeat (first | exact HR0.out | (with_reducible refine Kd.C_alloc ?_ _) | (with_reducible refine Kd.C_drewN ?_ _) | (with_reducible refine Kd.C_drew ?_))); (case side2 => exact HC0.out); rintro e w' ⟨rfl, ⟨nd, rfl⟩⟩; refine ⟨_, rfl, ?_⟩) | ((with_reducible refine gate_callee (f := 17) rfl ?_); refine goesL_ (some 19) rfl rfl Try.func17 (by kernel_rfl) rfl #[.slice A0 l0.length c0, .int .i64 a1, .int .i64 a2] rfl (by (try simp only [List.map_toArray, List.map_cons, List.map_nil]); first | done | rfl | (simp only [List.length_drop, List.length_take]; rfl)) ?_; (with_reducible refine (sketch_Quantile.calls k _ _ l0 a1 a2 t164 t165 _ ?side1 ?side2 A6.out).mono ?_); (case side1 => repeat (first | exact HR0.out | (with_reducible refine Kd.C_alloc ?_ _) | (with_reducible refine Kd.C_drewN ?_ _) | (with_reducible refine Kd.C_drew ?_))); (case side2 => exact HC0.out); rintro e w11 ⟨rfl, hb⟩; refine ⟨_, rfl, ?_⟩; have n0_ := Aside0.mk (below_step (by repeat (first | (with_reducible first | exact HB.out | apply below_alloc | apply pw_below_drewN | apply below_drew1) | exact HB.out)) hb); clear HB; have HB := n0_; clear n0_; (try clear hb); (try clear hb2); (try clear hk); (try clear hi)) | ((with_reducible refine gate_callee (f := 18) rfl ?_); refine goesL_ (some 26) rfl rfl Try.func18 (by kernel_rfl) rfl #[.slice A0 l0.length c0, .int .i64 a1, .int .i64 a2] rfl (by (try simp only [List.map_toArray, List.map_cons, List.map_nil]); first | done | rfl | (simp only [List.length_drop, List.length_take]; rfl)) ?_; (with_reducible refine (headgateref29_Quantile.calls k _ _ l0 a1 a2 t166 t167 _ ?side1 ?side2 A7.out).mono ?_); (case side1 => repeat (first | exact (Kd.C_below HR0.out HB.out) | (with_reducible refine Kd.C_alloc ?_ _) | (with_reducible refine Kd.C_drewN ?_ _) | (with_reducible refine Kd.C_drew ?_))); (case side2 => exact HC0.out); rintro e w' ⟨rfl, ⟨nd, rfl⟩⟩; refine ⟨_, rfl, ?_⟩) | (go_at_call 15; (with_reducible refine (headgatelaw29_awake.calls  t168 _ A10.out).mono ?_); rintro e w12 ⟨rfl, hb⟩; have n0_ := Aside0.mk (below_step (by repeat (first | (with_reducible first | exact HB.out | apply below_alloc | apply pw_below_drewN | apply below_drew1) | exact HB.out)) hb); clear HB; have HB := n0_; clear n0_; (try clear hb); (try clear hb2); (try clear hk); (try clear hi)))
        go_ret
        exact ⟨by first | rfl | (simp [errW_none, errW_some] <;> rfl) | (simp [*, errW_none, errW_some] <;> rfl), by repeat (first | (with_reducible first | exact HB.out | apply below_alloc | apply pw_below_drewN | apply below_drew1) | exact HB.out)⟩
      · rw [if_neg c9] at H
        have c9b0 : (t165 == t167) = false := beq_eq_false_iff_ne.mpr c9
        have c9b1 : (t165 != t167) = true := bne_iff_ne.mpr c9
        obtain rfl := Option.some.inj H
        go_enter Try.func5, Try.ntmps5
        go_wp2_with (first | ((with_reducible refine gate_callee (f := 16) rfl ?_); refine goesL_ (some 12) rfl rfl Try.func16 (by kernel_rfl) rfl #[.slice A0 l0.length c0] rfl (by (try simp only [List.map_toArray, List.map_cons, List.map_nil]); first | done | rfl | (simp only [List.length_drop, List.length_take]; rfl)) ?_; (with_reducible refine (headgatelaw29_light.calls _ _ l0 true _ ?side1 ?side2 A4.out).mono ?_); (case side1 => repeat (first | exact HR0.out | (with_reducible refine Kd.C_alloc ?_ _) | (with_reducible refine Kd.C_drewN ?_ _) | (with_reducible refine Kd.C_drew ?_))); (case side2 => exact HC0.out); rintro e w' ⟨rfl, ⟨nd, rfl⟩⟩; refine ⟨_, rfl, ?_⟩) | ((with_reducible refine gate_callee (f := 17) rfl ?_); refine goesL_ (some 19) rfl rfl Try.func17 (by kernel_rfl) rfl #[.slice A0 l0.length c0, .int .i64 a1, .int .i64 a2] rfl (by (try simp only [List.map_toArray, List.map_cons, List.map_nil]); first | done | rfl | (simp only [List.length_drop, List.length_take]; rfl)) ?_; (with_reducible refine (sketch_Quantile.calls k _ _ l0 a1 a2 t164 t165 _ ?side1 ?side2 A6.out).mono ?_); (case side1 => repeat (first | exact HR0.out | (with_reducible refine Kd.C_alloc ?_ _) | (with_reducible refine Kd.C_drewN ?_ _) | (with_reducible refine Kd.C_drew ?_))); (case side2 => exact HC0.out); rintro e w13 ⟨rfl, hb⟩; refine ⟨_, rfl, ?_⟩; have n0_ := Aside0.mk (below_step (by repeat (first | (with_reducible first | exact HB.out | apply below_alloc | apply pw_below_drewN | apply below_drew1) | exact HB.out)) hb); clear HB; have HB := n0_; clear n0_; (try clear hb); (try clear hb2); (try clear hk); (try clear hi)) | ((with_reducible refine gate_callee (f := 18) rfl ?_); refine goesL_ (some 26) rfl rfl Try.func18 (by kernel_rfl) rfl #[.slice A0 l0.length c0, .int .i64 a1, .int .i64 a2] rfl (by (try simp only [List.map_toArray, List.map_cons, List.map_nil]); first | done | rfl | (simp only [List.length_drop, List.length_take]; rfl)) ?_; (with_reducible refine (headgateref29_Quantile.calls k _ _ l0 a1 a2 t166 t167 _ ?side1 ?side2 A7.out).mono ?_); (case side1 => repeat (first | exact (Kd.C_below HR0.out HB.out) | (with_reducible refine Kd.C_alloc ?_ _) | (with_reducible refine Kd.C_drewN ?_ _) | (with_reducible refine Kd.C_drew ?_))); (case side2 => exact HC0.out); rintro e w' ⟨rfl, ⟨nd, rfl⟩⟩; refine ⟨_, rfl, ?_⟩))
        go_ret
        exact ⟨by first | rfl | (simp [errW_none, errW_some] <;> rfl) | (simp [*, errW_none, errW_some] <;> rfl), by repeat (first | (with_reducible first | exact HB.out | apply below_alloc | apply pw_below_drewN | apply below_drew1) | exact HB.out)⟩
    · rw [if_neg c8] at H
      have c8b0 : (t164 == t166) = false := beq_eq_false_iff_ne.mpr c8
      have c8b1 : (t164 != t166) = true := bne_iff_ne.mpr c8
      obtain rfl := Option.some.inj H
      go_enter Try.func5, Try.ntmps5
      go_wp2_with (first | ((with_reducible refine gate_callee (f := 16) rfl ?_); refine goesL_ (some 12) rfl rfl Try.func16 (by kernel_rfl) rfl #[.slice A0 l0.length c0] rfl (by (try simp only [List.map_toArray, List.map_cons, List.map_nil]); first | done | rfl | (simp only [List.length_drop, List.length_take]; rfl)) ?_; (with_reducible refine (headgatelaw29_light.calls _ _ l0 true _ ?side1 ?side2 A4.out).mono ?_); (case side1 => repeat (first | exact HR0.out | (with_reducible refine Kd.C_alloc ?_ _) | (with_reducible refine Kd.C_drewN ?_ _) | (with_reducible refine Kd.C_drew ?_))); (case side2 => exact HC0.out); rintro e w' ⟨rfl, ⟨nd, rfl⟩⟩; refine ⟨_, rfl, ?_⟩) | ((with_reducible refine gate_callee (f := 17) rfl ?_); refine goesL_ (some 19) rfl rfl Try.func17 (by kernel_rfl) rfl #[.slice A0 l0.length c0, .int .i64 a1, .int .i64 a2] rfl (by (try simp only [List.map_toArray, List.map_cons, List.map_nil]); first | done | rfl | (simp only [List.length_drop, List.length_take]; rfl)) ?_; (with_reducible refine (sketch_Quantile.calls k _ _ l0 a1 a2 t164 t165 _ ?side1 ?side2 A6.out).mono ?_); (case side1 => repeat (first | exact HR0.out | (with_reducible refine Kd.C_alloc ?_ _) | (with_reducible refine Kd.C_drewN ?_ _) | (with_reducible refine Kd.C_drew ?_))); (case side2 => exact HC0.out); rintro e w14 ⟨rfl, hb⟩; refine ⟨_, rfl, ?_⟩; have n0_ := Aside0.mk (below_step (by repeat (first | (with_reducible first | exact HB.out | apply below_alloc | apply pw_below_drewN | apply below_drew1) | exact HB.out)) hb); clear HB; have HB := n0_; clear n0_; (try clear hb); (try clear hb2); (try clear hk); (try clear hi)) | ((with_reducible refine gate_callee (f := 18) rfl ?_); refine goesL_ (some 26) rfl rfl Try.func18 (by kernel_rfl) rfl #[.slice A0 l0.length c0, .int .i64 a1, .int .i64 a2] rfl (by (try simp only [List.map_toArray, List.map_cons, List.map_nil]); first | done | rfl | (simp only [List.length_drop, List.length_take]; rfl)) ?_; (with_reducible refine (headgateref29_Quantile.calls k _ _ l0 a1 a2 t166 t167 _ ?side1 ?side2 A7.out).mono ?_); (case side1 => repeat (first | exact (Kd.C_below HR0.out HB.out) | (with_reducible refine Kd.C_alloc ?_ _) | (with_reducible refine Kd.C_drewN ?_ _) | (with_reducible refine Kd.C_drew ?_))); (case side2 => exact HC0.out); rintro e w' ⟨rfl, ⟨nd, rfl⟩⟩; refine ⟨_, rfl, ?_⟩))
      go_ret
      exact ⟨by first | rfl | (simp [errW_none, errW_some] <;> rfl) | (simp [*, errW_none, errW_some] <;> rfl), by repeat (first | (with_reducible first | exact HB.out | apply below_alloc | apply pw_below_drewN | apply below_drew1) | exact HB.out)⟩
  · replace c5 := Bool.eq_false_iff.mpr c5
    subst c5
    have H1 : ((headgatelaw29_awake.f).bind fun t169 => (some t169)) = some r := by rw [if_neg (show ¬ (false = true) by decide)] at H; exact H
    clear H
    have H := H1
    clear H1
    replace H := Option.bind_eq_some_iff.mp H
    obtain ⟨t169, A150, H⟩ := H
    replace H : (some t169) = some r := H
    have A15 := Aside0.mk A150
    clear A150
    obtain rfl := Option.some.inj H
    go_enter Try.func5, Try.ntmps5
    go_wp2_with (first | ((with_reducible refine gate_callee (f := 16) rfl ?_); refine goesL_ (some 12) rfl rfl Try.func16 (by kernel_rfl) rfl #[.slice A0 l0.length c0] rfl (by (try simp only [List.map_toArray, List.map_cons, List.map_nil]); first | done | rfl | (simp only [List.length_drop, List.length_take]; rfl)) ?_; (with_reducible refine (headgatelaw29_light.calls _ _ l0 false _ ?side1 ?side2 A4.out).mono ?_); (case side1 => repeat (first | exact HR0.out | (with_reducible refine Kd.C_alloc ?_ _) | (with_reducible refine Kd.C_drewN ?_ _) | (with_reducible refine Kd.C_drew ?_))); (case side2 => exact HC0.out); rintro e w' ⟨rfl, ⟨nd, rfl⟩⟩; refine ⟨_, rfl, ?_⟩) | ((with_reducible refine gate_callee (f := 15) rfl ?_); refine goesL_ (some 14) rfl rfl Try.func15 (by kernel_rfl) rfl #[] rfl (by (try simp only [List.map_toArray, List.map_cons, List.map_nil]); first | done | rfl | (simp only [List.length_drop, List.length_take]; rfl)) ?_; (with_reducible refine (headgatelaw29_awake.calls  t169 _ A15.out).mono ?_); rintro e w16 ⟨rfl, hb⟩; refine ⟨_, rfl, ?_⟩; have n0_ := Aside0.mk (below_step (by repeat (first | (with_reducible first | exact HB.out | apply below_alloc | apply pw_below_drewN | apply below_drew1) | exact HB.out)) hb); clear HB; have HB := n0_; clear n0_; (try clear hb); (try clear hb2); (try clear hk); (try clear hi)))
    go_ret
    exact ⟨by first | rfl | (simp [errW_none, errW_some] <;> rfl) | (simp [*, errW_none, errW_some] <;> rfl), by repeat (first | (with_reducible first | exact HB.out | apply below_alloc | apply pw_below_drewN | apply below_drew1) | exact HB.out)⟩

/-- THE ONE PURE STATEMENT of headgatelaw29_SketchQuantiles: yours. -/
def headgatelaw29_SketchQuantiles.Pure : Prop := ∀ (l0 : List (S61)) (a1 : Int) (a2 : Int), (l0.length ≤ 9223372036854775807 ∧ ∀ y_ ∈ l0, wf61 y_) → ((Lit.int .i64 a1).wf = true) → ((Lit.int .i64 a2).wf = true) → ∃ k, headgatelaw29_SketchQuantiles.f k l0 a1 a2 = some true
theorem headgatelaw29_SketchQuantiles.walk (P : headgatelaw29_SketchQuantiles.Pure) (A0 : Option Addr) (c0 : Nat) (l0 : List (S61)) (a1 : Int) (a2 : Int) (w : World) (hr0 : Kd.C k61 w A0 l0.length l0) (hc0 : l0.length ≤ c0) (w0_ : l0.length ≤ 9223372036854775807 ∧ ∀ y_ ∈ l0, wf61 y_) (w1_ : (Lit.int .i64 a1).wf = true) (w2_ : (Lit.int .i64 a2).wf = true) :
    Calls Try.prog 5 #[.slice A0 l0.length c0, .int .i64 a1, .int .i64 a2] w fun e w' => e = .returned (.bool true) ∧ Below w.heap.size w w' := by
  obtain ⟨k, h⟩ := P l0 a1 a2 w0_ w1_ w2_
  refine (headgatelaw29_SketchQuantiles.calls k _ _ l0 a1 a2 true w hr0 hc0 h).mono ?_
  rintro e w' ⟨rfl, hd⟩
  exact ⟨rfl, hd⟩

/-! ### varint_Put: function 37 -/
def varint_Put.f (a0 : Int) : Option ByteArray := if Vm.I64 a0 then some (Vm.bs (Vm.enc a0)) else none
theorem varint_Put.bits_xor0 (a : Nat) (ha : a < 18446744073709551616) : Go.bits .xor .u64 (a : Int) 0 = (a : Int) := by
  have e : BitVec.ofInt 64 (a : Int) ^^^ BitVec.ofInt 64 0 = BitVec.ofNat 64 a := by simp
  unfold Go.bits
  show IntKind.u64.wrap ((BitVec.ofInt 64 (a : Int) ^^^ BitVec.ofInt 64 0).toNat : Int) = _
  rw [e, BitVec.toNat_ofNat, IntKind.wrap_u64]
  omega
theorem varint_Put.bits_xor1 (a : Nat) (ha : a < 18446744073709551616) : Go.bits .xor .u64 (a : Int) 18446744073709551615 = ((18446744073709551615 - a : Nat) : Int) := by
  have e : BitVec.ofInt 64 (a : Int) ^^^ BitVec.ofInt 64 18446744073709551615 = ~~~ BitVec.ofNat 64 a := by
    rw [show BitVec.ofInt 64 18446744073709551615 = BitVec.allOnes 64 by decide, BitVec.xor_allOnes, BitVec.ofInt_natCast]
  unfold Go.bits
  show IntKind.u64.wrap ((BitVec.ofInt 64 (a : Int) ^^^ BitVec.ofInt 64 18446744073709551615).toNat : Int) = _
  rw [e, BitVec.toNat_not, BitVec.toNat_ofNat, IntKind.wrap_u64]
  omega
theorem varint_Put.zz_eq (n : Int) (h : Vm.I64 n) : Go.bits .xor .u64 (IntKind.u64.wrap (IntKind.u64.wrap n * 2)) (IntKind.u64.wrap (n / 9223372036854775808)) = (Vm.zz n : Int) := by
  unfold Vm.I64 at h
  rw [IntKind.wrap_u64, IntKind.wrap_u64, IntKind.wrap_u64]
  by_cases h0 : n < 0
  · have e1 : (n / 9223372036854775808) % 18446744073709551616 = 18446744073709551615 := by omega
    obtain ⟨a, ha⟩ := Int.eq_ofNat_of_zero_le (show 0 ≤ n % 18446744073709551616 * 2 % 18446744073709551616 by omega)
    rw [e1, ha, varint_Put.bits_xor1 a (by omega)]
    unfold Vm.zz
    rw [if_pos h0]
    omega
  · have e1 : (n / 9223372036854775808) % 18446744073709551616 = 0 := by omega
    obtain ⟨a, ha⟩ := Int.eq_ofNat_of_zero_le (show 0 ≤ n % 18446744073709551616 * 2 % 18446744073709551616 by omega)
    rw [e1, ha, varint_Put.bits_xor0 a (by omega)]
    unfold Vm.zz
    rw [if_neg h0]
    omega
theorem varint_Put.or128 (v : Nat) : Go.bits .or .u8 ((v : Int) % 256) 128 = ((v % 128 + 128 : Nat) : Int) := by
  have key : ∀ a : Fin 256, Go.bits .or .u8 ((a.val : Nat) : Int) 128 = ((a.val % 128 + 128 : Nat) : Int) := by decide +kernel
  have := key ⟨v % 256, by omega⟩
  simp only at this
  rw [show (v : Int) % 256 = ((v % 256 : Nat) : Int) by omega, this]
  omega
theorem varint_Put.cut (b j : Nat) (hj : j < 10) (W : World) : (Instr.sliceAt 76 (.pointer (some ⟨b, 0, none⟩)) none (some (.int .i64 ((j : Int) + 1))) none).run Try.prog W = .ok (.slice (some ⟨b, 0, none⟩) (j + 1) 10) W := by
  have hl : Try.prog.arrayLen 76 = 10 := by kernel_rfl
  have hs : ∀ W : World, (sizeOf (Try.prog.elem 76)).run Try.prog W = .ok 1 W := fun W => by rfl
  rw [run_sliceAt_array_h W 76 _ Try.underlying76 .i64 _ (by omega) (by rw [hl]; omega), hs, hl]
  have e : ((j : Int) + 1).toNat = j + 1 := by omega
  simp [Result.andThen, slicedAt, e, Addr.add]
theorem varint_Put.told (W : World) (base b j : Nat) (hj : j < 10) (pre : List UInt8) (xs : List Int) (v : Nat) (hv : v < 256) (hp : pre.length = j) (hl : xs.length = 10) (ht : xs.take j = pre.map fun c => (c.toNat : Int))
    (ho : W.ownsRow base 76 1 (.slice (some ⟨b, 0, none⟩) 10 10) 10 (nums .u8 xs)) :
    (convert 77 9 (.slice (some ⟨b, 0, none⟩) (j + 1) 10)).run Try.prog (W.setCell ⟨b, j, none⟩ (.int .u8 (v : Int))) = .ok (.string (Vm.bs (pre ++ [UInt8.ofNat v]))) (W.setCell ⟨b, j, none⟩ (.int .u8 (v : Int))) := by
  have hst := (own_store ho (j : Int) (v : Int)).1
  rw [Int.toNat_natCast] at hst
  have hx : ((xs.set j (v : Int)).take (j + 1)) = (pre ++ [UInt8.ofNat v]).map fun c => (c.toNat : Int) := by
    rw [List.take_succ_eq_append_getElem (by simp; omega), List.take_set_of_le (by omega), ht]
    simp [Vm.toNat_ofNat_lt hv]
  rw [run_convert_bytes_arg _ 77 5 Try.underlying77 Try.underlying5 b 0 (j + 1) 10 ((xs.set j (v : Int)).take (j + 1)) (by simp; omega) (fun i hi => ?_) 9 Try.underlying9]
  · rw [hx, Vm.strOfNums_bs, List.map_map]
    congr 3
    have : ((fun n : Int => UInt8.ofNat n.toNat) ∘ fun c : UInt8 => (c.toNat : Int)) = id := by
      funext c
      simp
    rw [this, List.map_id]
  · have hc := (own_at hst (i : Int) (by omega) (by omega)).1
    rw [Int.toNat_natCast] at hc
    rw [Nat.zero_add, hc]
    simp [rd, List.getD_eq_getElem?_getD, List.getElem?_take, hi]
set_option maxHeartbeats 8000000 in
set_option maxRecDepth 100000 in
theorem varint_Put.calls (a0 : Int) (r : ByteArray) (w : World) (h : varint_Put.f a0 = some r) :
    Calls Try.prog 37 #[.int .i64 a0] w fun e w' => e = .returned (.string r) ∧ Below w.heap.size w w' := by
  unfold varint_Put.f at h
  split at h
  case isFalse => cases h
  rename_i hn
  have hr : r = Vm.bs (Vm.enc a0) := by injection h with h; exact h.symm
  clear h
  have hz := Lib.hid (varint_Put.zz_eq a0 hn)
  have hzl := Lib.hid (Vm.zz_lt.2 hn)
  have HR := Lib.hid hr
  clear hr hn
  go_enter Try.func37, Try.ntmps37
  go_wp2
  go_loopw [3, 5] (fun u k wr => ∃ (j f v : Nat) (pre : List UInt8) (xs : List Int), j + f = 9 ∧ u = .int .u64 v ∧ k = .int .i64 j ∧ v < 2 * 128 ^ f ∧ Aside0 (Vm.enc a0 = pre ++ Vm.sev f v) ∧ Aside0 (pre.length = j) ∧ Aside0 (xs.length = 10) ∧ Aside0 (xs.take j = pre.map fun b => (b.toNat : Int)) ∧ Aside0 (wr.ownsRow w.heap.size 76 1 (.slice (some ⟨w.heap.size, 0, none⟩) 10 10) 10 (nums .u8 xs)) ∧ Aside0 (Below w.heap.size w wr)) (fun _ k _ => (10 - intOf k).toNat)
  case atStart =>
    exact ⟨0, 9, Vm.zz a0, [], List.replicate 10 0, rfl, by rw [hz.out], rfl, hzl.out, ⟨rfl⟩, ⟨rfl⟩, ⟨rfl⟩, ⟨rfl⟩, ⟨World.ownsRow_lit (base := w.heap.size) (e := 76) (size := 1) w (nums .u8 (List.replicate 10 0)).toArray 10 (Nat.le_refl _) (by decide) (by simp [nums])⟩, ⟨below_alloc (Below.refl _ _) _⟩⟩
  case round =>
    obtain ⟨j, f, v, pre, xs, hj, rfl, rfl, hv, HE, HP, HL, HT, HO, HB⟩ := hrel
    have hj10 : j < 10 := by omega
    have hc := own_at HO.out (j : Int) (by omega) (by omega)
    rw [Int.toNat_natCast] at hc
    obtain ⟨hc1, hc2⟩ := hc
    by_cases hlt : 128 ≤ v
    · have hor := varint_Put.or128 v
      have hf : 0 < f := by
        rcases Nat.eq_zero_or_pos f with h0 | h0
        · subst h0; omega
        · exact h0
      go_wp2
      go_roundw
      case rel =>
        obtain ⟨f, rfl⟩ : ∃ m, f = m + 1 := ⟨f - 1, by omega⟩
        have hs : 2 * 128 ^ (f + 1) = 128 * (2 * 128 ^ f) := by rw [Nat.pow_succ]; omega
        have hst := own_store HO.out (j : Int) ((v : Int) % 128 + 128)
        rw [Int.toNat_natCast] at hst
        have he : (v : Int) % 128 + 128 = ((UInt8.ofNat (v % 128 + 128)).toNat : Int) := by rw [Vm.toNat_ofNat_lt (by omega)]; omega
        refine ⟨j + 1, f, v / 128, pre ++ [UInt8.ofNat (v % 128 + 128)], xs.set j ((v : Int) % 128 + 128), by omega, congrArg (Value.int .u64) (by omega), congrArg (Value.int .i64) (by omega), by omega, ⟨?_⟩, ⟨by simp [HP.out]⟩, ⟨by simp [HL.out]⟩, ⟨?_⟩, ⟨hst.1⟩, ⟨?_⟩⟩
        · rw [HE.out, Vm.sev_succ, if_neg (by omega)]; simp
        · rw [List.take_succ_eq_append_getElem (by simp [HL.out]; omega), List.take_set_of_le (by omega), HT.out]
          rw [List.getElem_set_self, List.map_append, he]
          rfl
        · exact pw_below_grown HB.out _ HB.out.size hst.2 (fun k hk => by injection hk with hk; omega)
      case measure => simp [intOf]; omega
    · have kb := varint_Put.told wr w.heap.size w.heap.size j hj10 pre xs v (by omega) HP.out HL.out HT.out HO.out
      have ks := varint_Put.cut w.heap.size j hj10
      have hr : Vm.bs (pre ++ [UInt8.ofNat v]) = r := by
        rw [HR.out, HE.out]
        congr 2
        cases f with
        | zero => rfl
        | succ f => rw [Vm.sev_succ, if_pos (by omega)]
      rw [hr] at kb
      have hb : Below w.heap.size w (wr.setCell ⟨w.heap.size, j, none⟩ (.int .u8 v)) := by
        have hst := own_store HO.out (j : Int) (v : Int)
        rw [Int.toNat_natCast] at hst
        exact pw_below_grown HB.out _ HB.out.size hst.2 (fun k hk => by injection hk with hk; omega)
      have HBN := Aside0.mk hb
      clear hb hr
      go_wp2
      go_ret
      exact ⟨rfl, HBN.out⟩

-- NOT PRINTED: function 56 (abi_NoEscape)

-- NOT PRINTED: function 51 (strings_Builder_copyCheck)

-- NOT PRINTED: function 47 (strings_Builder_WriteString)

-- NOT PRINTED: function 48 (strings_Builder_String)

/-! ### varint_PutAll: function 38 -/
def varint_PutAll.f (l0 : List Int) : Option ByteArray := if l0.length ≤ 1099511627776 ∧ ∀ n ∈ l0, Vm.I64 n then some (Vm.bs (l0.flatMap Vm.enc)) else none
theorem varint_PutAll.len (l : List Int) : (l.flatMap Vm.enc).length ≤ 10 * l.length := by
  induction l with
  | nil => simp
  | cons a l ih => have := (Vm.enc_len a).2; simp only [List.flatMap_cons, List.length_append, List.length_cons]; omega
theorem varint_PutAll.snoc (l : List Int) (j : Nat) (h : j < l.length) : (l.take (j + 1)).flatMap Vm.enc = (l.take j).flatMap Vm.enc ++ Vm.enc (rd l (j : Int)) := by
  rw [List.take_succ_eq_append_getElem h, List.flatMap_append]
  simp [rd, List.getD_eq_getElem?_getD, List.getElem?_eq_getElem h]
set_option maxHeartbeats 8000000 in
set_option maxRecDepth 100000 in
theorem varint_PutAll.calls (A0 : Option Addr) (c0 : Nat) (l0 : List Int) (r : ByteArray) (w : World) (hr0 : Kd.C (Kd.int .i64) w A0 l0.length l0) (hc0 : l0.length ≤ c0) (h : varint_PutAll.f l0 = some r) :
    Calls Try.prog 38 #[.slice A0 l0.length c0] w fun e w' => e = .returned (.string r) ∧ Below w.heap.size w w' := by
  unfold varint_PutAll.f at h
  split at h
  case isFalse => cases h
  rename_i hn
  obtain ⟨hlen, hall⟩ := hn
  have HR := Lib.hid (Option.some.inj h)
  have HALL := Lib.hid hall
  have HC := Aside0.mk hr0
  clear h hall hr0
  go_enter Try.func38, Try.ntmps38
  go_wp2
  go_loopw [8] (fun v8 wr => ∃ j : Nat, j ≤ l0.length ∧ v8 = .int .i64 j ∧ Aside0 (Lib.IsBuilder 80 5 w.heap.size w.heap.size (Lib.byteCells ((l0.take j).flatMap Vm.enc)) wr) ∧ Aside0 (Below w.heap.size w wr)) (fun v8 _ => l0.length - (intOf v8).toNat)
  case atStart =>
    exact ⟨0, Nat.zero_le _, rfl, ⟨Lib.fresh_isBuilder _ _ w⟩, ⟨below_alloc (Below.refl _ _) _⟩⟩
  case round =>
    obtain ⟨j, hj, rfl, HI, HB⟩ := hrel
    have hBw := HB.out.size
    have hl := varint_PutAll.len (l0.take j)
    have hlt := List.length_take_le j l0
    by_cases hlt : j < l0.length
    · obtain ⟨ad, rfl, hcell⟩ := Kd.at_int HC.out (j : Int) (by omega) (by omega)
      replace hcell := (HB.out.cell (World.block_lt_of_cell? w _ hcell)).trans hcell
      rw [Int.toNat_natCast] at hcell
      have hmem : Vm.I64 (rd l0 (j : Int)) := HALL.out _ (by simp [rd, List.getD_eq_getElem?_getD, List.getElem?_eq_getElem hlt])
      have hput : varint_Put.f (rd l0 (j : Int)) = some (Vm.bs (Vm.enc (rd l0 (j : Int)))) := if_pos hmem
      have HP := Lib.hid hput
      have henc := (Vm.enc_len (rd l0 (j : Int))).2
      have hl2 : (Lib.byteCells ((l0.take j).flatMap Vm.enc)).length + (Vm.bs (Vm.enc (rd l0 (j : Int)))).size ≤ 140737488355328 := by simp only [Lib.byteCells, List.length_map, Vm.size_bs]; omega
      have HL2 := Lib.hid hl2
      clear hput hl2
      go_wp2_with (go_at_call 37; refine (varint_Put.calls (rd l0 (j : Int)) _ _ HP.out).mono ?_)
      rintro e w1 ⟨rfl, hb1⟩
      have HI1 := Aside0.mk (Bld.IsBuilder.below HI.out hb1)
      have HB1 := Aside0.mk (below_then HB.out hBw hb1)
      have hsz1 := HB1.out.size
      clear hb1
      go_wp2_with (go_at_call 47; refine (Bld.writeString w.heap.size w.heap.size _ _ _ HI1.out HL2.out hsz1).mono ?_)
      rintro e w2 ⟨rfl, hi2, hb2⟩
      have HB2 := Aside0.mk (HB1.out.trans hb2)
      have HI2 := Aside0.mk hi2
      clear hi2 hb2
      go_wp2
      go_roundw
      case rel =>
        refine ⟨j + 1, by omega, by go_num, ⟨?_⟩, HB2⟩
        rw [varint_PutAll.snoc _ _ hlt, Bld.byteCells_append]
        have := HI2.out
        rw [Bld.strCells_eq, Vm.data_bs] at this
        exact .inr this
      case measure => simp [intOf]; omega
    · obtain rfl : j = l0.length := by omega
      go_wp2_with (go_at_call 48; refine (Bld.string w.heap.size w.heap.size _ _ HI.out hBw).mono ?_)
      rintro e w2 ⟨rfl, hb2⟩
      have HB2 := Aside0.mk (HB.out.trans hb2)
      clear hb2
      go_wp2
      go_ret
      refine ⟨?_, HB2.out⟩
      rw [← HR.out]
      rfl

end Go.Proofs.Ytgijangnoekbjaa.P
