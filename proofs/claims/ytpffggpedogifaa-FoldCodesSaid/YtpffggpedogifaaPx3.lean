-- Written by wip/mk.py of this repo: the kit's print program, with contracts of our own among its functions.
import Derived.Test.YtpffggpedogifaaPx0
namespace Go.Proofs.Ytpffggpedogifaa.P
open Go.RowKit Go.Proofs.YtpffggpedogifaaW.PrintWords Go.Proofs.YtpffggpedogifaaW.PrintLast Go.Proofs.YtpffggpedogifaaW.PrintMore
attribute [local go_sem] max2_int min2_int max_two min_two max_three min_three max_four min_four   -- for this text's walks alone
set_option linter.unusedVariables false
set_option linter.unusedSimpArgs false

/-! ### fold_Sort: function 12 -/
def fold_Sort.f (a0 : Int) : Option (Int) := if a0 < 0 then (some 0) else (if a0 < 10 then (some 1) else (if a0 < 100 then (some 2) else (some 3)))
set_option maxHeartbeats 8000000 in
set_option maxRecDepth 100000 in
theorem fold_Sort.calls (a0 : Int) (r : Int) (w : World) (h : fold_Sort.f a0 = some r) :
    Calls Try.prog 12 #[.int .i64 a0] w fun e w' => e = .returned (.int .i64 r) ∧ Drawn0 w w' := by
  have H : (if a0 < 0 then (some 0) else (if a0 < 10 then (some 1) else (if a0 < 100 then (some 2) else (some 3)))) = some r := h
  clear h
  by_cases c2 : a0 < 0
  · rw [if_pos c2] at H
    have c2b0 : decide (a0 < 0) = true := decide_eq_true c2
    clear c2
    obtain rfl := Option.some.inj H
    go_enter Try.func12, Try.ntmps12
    go_wp2
    go_ret
    exact ⟨by first | rfl | (simp; done) | (simp [*]; done), by repeat (first | exact Drawn0.refl _ | apply Drawn0.step)⟩
  · rw [if_neg c2] at H
    have c2b0 : decide (a0 < 0) = false := decide_eq_false c2
    clear c2
    by_cases c3 : a0 < 10
    · rw [if_pos c3] at H
      have c3b0 : decide (a0 < 10) = true := decide_eq_true c3
      clear c3
      obtain rfl := Option.some.inj H
      go_enter Try.func12, Try.ntmps12
      go_wp2
      go_ret
      exact ⟨by first | rfl | (simp; done) | (simp [*]; done), by repeat (first | exact Drawn0.refl _ | apply Drawn0.step)⟩
    · rw [if_neg c3] at H
      have c3b0 : decide (a0 < 10) = false := decide_eq_false c3
      clear c3
      by_cases c4 : a0 < 100
      · rw [if_pos c4] at H
        have c4b0 : decide (a0 < 100) = true := decide_eq_true c4
        clear c4
        obtain rfl := Option.some.inj H
        go_enter Try.func12, Try.ntmps12
        go_wp2
        go_ret
        exact ⟨by first | rfl | (simp; done) | (simp [*]; done), by repeat (first | exact Drawn0.refl _ | apply Drawn0.step)⟩
      · rw [if_neg c4] at H
        have c4b0 : decide (a0 < 100) = false := decide_eq_false c4
        clear c4
        obtain rfl := Option.some.inj H
        go_enter Try.func12, Try.ntmps12
        go_wp2
        go_ret
        exact ⟨by first | rfl | (simp; done) | (simp [*]; done), by repeat (first | exact Drawn0.refl _ | apply Drawn0.step)⟩

/-! ### fold_plus: function 23 -/
def fold_plus.j0 : Nat → Int → Int → Int → Bool → Option (Int)
  | 0, _, _, _, _ => none
  | k + 1, x0, x1, x5, x10 => if x10 = true then (some 9223372036854775807) else (if x1 < 0 then (if x5 > x0 then (some (-9223372036854775808)) else (some x5)) else (some x5))
def fold_plus.f (k : Nat) (a0 : Int) (a1 : Int) : Option (Int) := if a1 > 0 then (fold_plus.j0 k a0 a1 (wrap64 (a0 + a1)) (decide ((wrap64 (a0 + a1)) < a0))) else (fold_plus.j0 k a0 a1 (wrap64 (a0 + a1)) false)
theorem fold_plus.mono_l : ∀ k, (∀ y0 y1 y2 y3, LeO (fold_plus.j0 k y0 y1 y2 y3) (fold_plus.j0 (k + 1) y0 y1 y2 y3))
  | 0 => fun _ _ _ _ r h => by simp [fold_plus.j0] at h
  | k + 1 => by
    have ih0 := fold_plus.mono_l k
    · intro y0 y1 y2 y3
      unfold fold_plus.j0
      repeat' first
      | (with_reducible exact ih0 _ _ _ _)
      | (with_reducible exact LeO.refl _)
      | (with_reducible exact LeO.none _)
      | (with_reducible refine LeO.ite ?_ ?_)
      | (with_reducible refine LeO.bind ?_ (fun _ => ?_))
      | exact ih0 _ _ _ _
      | exact LeO.none _
      | refine LeO.ite ?_ ?_
      | refine LeO.bind ?_ (fun _ => ?_)
theorem fold_plus.mono : ∀ a0 a1 k, LeO (fold_plus.f k a0 a1) (fold_plus.f (k + 1) a0 a1) := by
  intro a0 a1 k
  have ih0 := fold_plus.mono_l k
  unfold fold_plus.f
  repeat' first
      | (with_reducible exact ih0 _ _ _ _)
      | (with_reducible exact LeO.refl _)
      | (with_reducible exact LeO.none _)
      | (with_reducible refine LeO.ite ?_ ?_)
      | (with_reducible refine LeO.bind ?_ (fun _ => ?_))
      | exact ih0 _ _ _ _
      | exact LeO.none _
      | refine LeO.ite ?_ ?_
      | refine LeO.bind ?_ (fun _ => ?_)
set_option maxHeartbeats 8000000 in
set_option maxRecDepth 100000 in
theorem fold_plus.calls (k : Nat) (a0 : Int) (a1 : Int) (r : Int) (w : World) (h : fold_plus.f k a0 a1 = some r) :
    Calls Try.prog 23 #[.int .i64 a0, .int .i64 a1] w fun e w' => e = .returned (.int .i64 r) ∧ Drawn0 w w' := by
  have H : (if a1 > 0 then (fold_plus.j0 k a0 a1 (wrap64 (a0 + a1)) (decide ((wrap64 (a0 + a1)) < a0))) else (fold_plus.j0 k a0 a1 (wrap64 (a0 + a1)) false)) = some r := h
  clear h
  have HC3 := Aside0.mk H
  clear H
  go_enter Try.func23, Try.ntmps23
  go_upto_region 3 with (fail)
  go_cut [10] (fun v10 wc => ∃ (kq : Nat) (x10_2 : Bool), v10 = .bool x10_2 ∧ Aside0 (fold_plus.j0 kq a0 a1 (wrap64 (a0 + a1)) x10_2 = some r) ∧ Aside0 (kq ≤ k) ∧ Drawn0 w wc)
  case first =>
    have H := HC3.out
    clear HC3
    by_cases c4 : a1 > 0
    · rw [if_pos c4] at H
      have c4b0 : decide (0 < a1) = true := decide_eq_true c4
      clear c4
      (first | rw [c4b0] | rw [c4b9] | (simp only [i64_w, i32_w]; rw [c4b0]) | skip)
      have H' := Aside0.mk H
      clear H
      go_wp2
      go_meet
      case rel => exact ⟨_, (decide ((wrap64 (a0 + a1)) < a0)), (by first | rfl | (simp; done) | (simp [*]; done)), H', ⟨by first | omega | exact Nat.le_refl _⟩, by repeat (first | exact Drawn0.refl _ | apply Drawn0.step)⟩
    · rw [if_neg c4] at H
      have c4b0 : decide (0 < a1) = false := decide_eq_false c4
      clear c4
      (first | rw [c4b0] | rw [c4b9] | (simp only [i64_w, i32_w]; rw [c4b0]) | skip)
      have H' := Aside0.mk H
      clear H
      go_wp2
      go_meet
      case rel => exact ⟨_, (false), (by first | rfl | (simp; done) | (simp [*]; done)), H', ⟨by first | omega | exact Nat.le_refl _⟩, by repeat (first | exact Drawn0.refl _ | apply Drawn0.step)⟩
  case rest =>
    clear HC3
    try clear c2
    try clear p2
    try clear c4
    try clear c4b0
    obtain ⟨kq, x10_2, rfl, HA, HJ2, ⟨mc2, rfl⟩⟩ := hcut
    cases kq with
    | zero => exact absurd HA.out (by simp [fold_plus.j0])
    | succ kj2 =>
      have H := HA.out
      clear HA
      simp only [fold_plus.j0] at H
      by_cases c5 : x10_2 = true
      · subst c5
        have H1 : (some 9223372036854775807) = some r := by rw [if_pos rfl] at H; exact H
        clear H
        have H := H1
        clear H1
        obtain rfl := Option.some.inj H
        go_wp2
        go_ret
        exact ⟨by first | rfl | (simp; done) | (simp [*]; done), by repeat (first | exact Drawn0.refl _ | apply Drawn0.step)⟩
      · replace c5 := Bool.eq_false_iff.mpr c5
        subst c5
        have H1 : (if a1 < 0 then (if (wrap64 (a0 + a1)) > a0 then (some (-9223372036854775808)) else (some (wrap64 (a0 + a1)))) else (some (wrap64 (a0 + a1)))) = some r := by rw [if_neg (show ¬ (false = true) by decide)] at H; exact H
        clear H
        have H := H1
        clear H1
        by_cases c6 : a1 < 0
        · rw [if_pos c6] at H
          have c6b0 : decide (a1 < 0) = true := decide_eq_true c6
          clear c6
          by_cases c7 : (wrap64 (a0 + a1)) > a0
          · rw [if_pos c7] at H
            have c7b0 : decide (a0 < (wrap64 (a0 + a1))) = true := decide_eq_true c7
            clear c7
            obtain rfl := Option.some.inj H
            go_wp2
            go_ret
            exact ⟨by first | rfl | (simp; done) | (simp [*]; done), by repeat (first | exact Drawn0.refl _ | apply Drawn0.step)⟩
          · rw [if_neg c7] at H
            have c7b0 : decide (a0 < (wrap64 (a0 + a1))) = false := decide_eq_false c7
            clear c7
            obtain rfl := Option.some.inj H
            go_wp2
            go_ret
            exact ⟨by first | rfl | (simp; done) | (simp [*]; done), by repeat (first | exact Drawn0.refl _ | apply Drawn0.step)⟩
        · rw [if_neg c6] at H
          have c6b0 : decide (a1 < 0) = false := decide_eq_false c6
          clear c6
          obtain rfl := Option.some.inj H
          go_wp2
          go_ret
          exact ⟨by first | rfl | (simp; done) | (simp [*]; done), by repeat (first | exact Drawn0.refl _ | apply Drawn0.step)⟩

/-! ### fold_turn: function 24 -/
/-- So many quarter turns: the bits of both parts. -/
def fold_turn.c (q : Int) : Nat × Nat := if q = 0 then (4607182418800017408, 0) else if q = 1 then (0, 4607182418800017408) else if q = 2 then (13830554455654793216, 0) else (9223372036854775808, 13830554455654793216)
theorem fold_turn.m0 : cMulBits (fold_turn.c 0).1 (fold_turn.c 0).2 0 4607182418800017408 = some (fold_turn.c 1) := by kernel_rfl
theorem fold_turn.m1 : cMulBits (fold_turn.c 1).1 (fold_turn.c 1).2 0 4607182418800017408 = some (fold_turn.c 2) := by kernel_rfl
theorem fold_turn.m2 : cMulBits (fold_turn.c 2).1 (fold_turn.c 2).2 0 4607182418800017408 = some (fold_turn.c 3) := by kernel_rfl
theorem fold_turn.mul (j : Int) (h0 : 0 ≤ j) (h3 : j < 3) (w : World) : (binOp .mul 48 (.complex .f64 (fold_turn.c j).1 (fold_turn.c j).2) (.complex .f64 0 4607182418800017408)).run Try.prog w = .ok (.complex .f64 (fold_turn.c (j + 1)).1 (fold_turn.c (j + 1)).2) w := by
  have h : cMulBits (fold_turn.c j).1 (fold_turn.c j).2 0 4607182418800017408 = some ((fold_turn.c (j + 1)).1, (fold_turn.c (j + 1)).2) := by
    have : j = 0 ∨ j = 1 ∨ j = 2 := by omega
    rcases this with rfl | rfl | rfl
    · exact fold_turn.m0
    · exact fold_turn.m1
    · exact fold_turn.m2
  exact run_complex_mul w _ _ _ _ _ _ _ h
theorem fold_turn.and3 (v : Int) : Go.bits .and .i64 v 3 = v % 4 := by
  have h3 : (BitVec.ofInt 64 3).toNat = 2 ^ 2 - 1 := by decide
  have key : (BitVec.ofInt 64 v &&& BitVec.ofInt 64 3).toNat = (v % ((2 ^ 64 : Nat) : Int)).toNat % 2 ^ 2 := by
    rw [BitVec.toNat_and, BitVec.toNat_ofInt, h3, Nat.and_two_pow_sub_one_eq_mod]
  show IntKind.i64.wrap ((BitVec.ofInt 64 v &&& BitVec.ofInt 64 3).toNat : Nat) = v % 4
  rw [key, IntKind.wrap_i64]
  omega
set_option maxHeartbeats 8000000 in
set_option maxRecDepth 100000 in
theorem fold_turn.walk0 (v : Int) (w : World) : Calls Try.prog 24 #[.int .i64 v] w fun e w' => e = .returned (.complex .f64 (fold_turn.c (v % 4)).1 (fold_turn.c (v % 4)).2) ∧ Drawn0 w w' := by
  have HB : Aside0 (Drawn0 w w) := ⟨Drawn0.refl w⟩
  have HM := Aside0.mk fold_turn.mul
  go_enter Try.func24, Try.ntmps24
  go_wp2_with (fail)
  rw [fold_turn.and3]
  have HQ : Aside0 (0 ≤ v % 4 ∧ v % 4 < 4) := ⟨by omega⟩
  obtain ⟨q, hq⟩ : ∃ q, q = v % 4 := ⟨_, rfl⟩
  rw [← hq] at HQ ⊢
  have HV := Aside0.mk hq
  clear hq
  go_loopg [3, 6] 4 (fun kq v3 v6 w' => ∃ j : Int, v3 = .complex .f64 (fold_turn.c j).1 (fold_turn.c j).2 ∧ v6 = .int .i64 j ∧ Aside0 (0 ≤ j ∧ j ≤ q ∧ j + kq = 4) ∧ Aside0 (Drawn0 w w'))
  case atStart => exact ⟨0, rfl, rfl, ⟨by have := HQ.out; omega⟩, HB⟩
  case round =>
    clear HB
    obtain ⟨j, rfl, rfl, HJ, HB⟩ := hrel
    by_cases c : j < q
    · have c1 : decide (j < q) = true := decide_eq_true c
      cases gk with
      | zero => exact absurd HJ.out (by have := HQ.out; omega)
      | succ k =>
      have hm := HM.out j HJ.out.1 (by have := HQ.out; omega)
      have HJ2 : Aside0 (0 ≤ j + 1 ∧ j + 1 ≤ q ∧ j + 1 + (k : Int) = 4) := ⟨by have := HJ.out; omega⟩
      have HW : Aside0 (wrap64 (j + 1) = j + 1) := ⟨by have := HJ.out; have := HQ.out; unfold wrap64; omega⟩
      clear c
      go_wp2
      go_roundg k
      case measure => omega
      case rel => exact ⟨j + 1, rfl, by rw [HW.out], HJ2, ⟨by first | exact HB.out | exact HB.out.step _⟩⟩
    · have c1 : decide (j < q) = false := decide_eq_false c
      have hj : j = q := by have := HJ.out; omega
      have HE := Aside0.mk (hj.trans HV.out)
      clear c hj
      go_wp2
      go_ret
      exact ⟨by rw [← HE.out]; rfl, by first | exact HB.out | exact HB.out.step _⟩
/-- A part of a quarter turn, as a whole number. -/
def fold_turn.int (b : Nat) : Int := if b = 4607182418800017408 then 1 else if b = 13830554455654793216 then -1 else 0
theorem fold_turn.t0 (w : World) : (convert 50 3 (.float .f64 4607182418800017408)).run Try.prog w = .ok (.int .i64 1) w := by kernel_rfl
theorem fold_turn.t1 (w : World) : (convert 50 3 (.float .f64 13830554455654793216)).run Try.prog w = .ok (.int .i64 (-1)) w := by kernel_rfl
theorem fold_turn.t2 (w : World) : (convert 50 3 (.float .f64 9223372036854775808)).run Try.prog w = .ok (.int .i64 0) w := by kernel_rfl
theorem fold_turn.t3 (w : World) : (convert 50 3 (.float .f64 0)).run Try.prog w = .ok (.int .i64 0) w := by kernel_rfl
theorem fold_turn.toInt (q : Int) (w : World) : (convert 50 3 (.float .f64 (fold_turn.c q).1)).run Try.prog w = .ok (.int .i64 (fold_turn.int (fold_turn.c q).1)) w ∧ (convert 50 3 (.float .f64 (fold_turn.c q).2)).run Try.prog w = .ok (.int .i64 (fold_turn.int (fold_turn.c q).2)) w := by
  unfold fold_turn.c
  split
  · exact ⟨fold_turn.t0 w, fold_turn.t3 w⟩
  · split
    · exact ⟨fold_turn.t3 w, fold_turn.t0 w⟩
    · split
      · exact ⟨fold_turn.t1 w, fold_turn.t3 w⟩
      · exact ⟨fold_turn.t2 w, fold_turn.t1 w⟩
def fold_turn.f (a0 : Int) : Option Int := some (a0 % 4)
theorem fold_turn.calls (a0 : Int) (r : Int) (w : World) (h : fold_turn.f a0 = some r) :
    Calls Try.prog 24 #[.int .i64 a0] w fun e w' => e = .returned (.complex .f64 (fold_turn.c r).1 (fold_turn.c r).2) ∧ Drawn0 w w' := by
  obtain rfl := Option.some.inj h
  exact fold_turn.walk0 a0 w

end Go.Proofs.Ytpffggpedogifaa.P
