-- Written by wip/mk.py of this repo: the kit's print program, with contracts of our own among its functions.
import Derived.Test.YtgijangnoekbjaaPx0
namespace Go.Proofs.Ytgijangnoekbjaa.P
open Go.RowKit Go.Proofs.YtgijangnoekbjaaW.PrintWords Go.Proofs.YtgijangnoekbjaaW.PrintLast Go.Proofs.YtgijangnoekbjaaW.PrintMore
attribute [local go_sem] max2_int min2_int max_two min_two max_three min_three max_four min_four   -- for this text's walks alone
set_option linter.unusedVariables false
set_option linter.unusedSimpArgs false

/-! ### sketch_is: function 34 -/
def sketch_is.f (a0 : Int) : Option Bool := if Vm.I64 a0 then some (decide (-960 ≤ a0 ∧ a0 < 960)) else none
set_option maxHeartbeats 4000000 in
set_option maxRecDepth 100000 in
theorem sketch_is.calls (a0 : Int) (r : Bool) (w : World) (h : sketch_is.f a0 = some r) :
    Calls Try.prog 34 #[.int .i64 a0] w fun e w' => e = .returned (.bool r) ∧ Drawn0 w w' := by
  unfold sketch_is.f at h
  split at h
  case isFalse => cases h
  rename_i hn
  injection h with h
  subst h
  have hx := Len.notx a0 hn
  have hsg : IntKind.i64.signed = true := rfl
  by_cases h0 : a0 < 0
  · have hlt : a0 < -1 - a0 := by omega
    have e1 : decide (-960 ≤ a0 ∧ a0 < 960) = decide (-1 - a0 < 960) := by
      apply decide_eq_decide.mpr
      omega
    rw [e1]
    clear e1
    obtain ⟨y, hy, hy1, hy2⟩ : ∃ y : Int, -1 - a0 = y ∧ y ≤ -1 - a0 ∧ -1 - a0 ≤ y := ⟨_, rfl, Int.le_refl _, Int.le_refl _⟩
    rw [hy] at hx ⊢
    clear hy hlt
    have hlt : a0 < y := by omega
    have hlt2 := eq_true hlt
    go_enter Try.func34, Try.ntmps34
    go_wp2
    all_goals first
      | (exfalso; omega)
      | (go_ret; exact ⟨rfl, Drawn0.refl _⟩)
  · have hlt : ¬ a0 < -1 - a0 := by omega
    have e1 : decide (-960 ≤ a0 ∧ a0 < 960) = decide (a0 < 960) := by
      apply decide_eq_decide.mpr
      omega
    rw [e1]
    clear e1
    obtain ⟨y, hy, hy1, hy2⟩ : ∃ y : Int, -1 - a0 = y ∧ y ≤ -1 - a0 ∧ -1 - a0 ≤ y := ⟨_, rfl, Int.le_refl _, Int.le_refl _⟩
    rw [hy] at hx
    clear hy hlt
    have hlt : ¬ a0 < y := by omega
    have hlt2 := eq_false hlt
    go_enter Try.func34, Try.ntmps34
    go_wp2
    all_goals first
      | (exfalso; omega)
      | (go_ret; exact ⟨rfl, Drawn0.refl _⟩)

/-! ### sketch_least: function 35 -/
def sketch_least.f (a0 : Int) : Option Int := if 0 ≤ a0 ∧ a0 ≤ 959 then some (Sm.lst a0.toNat : Int) else none
theorem sketch_least.core (e m : Nat) (he : 1 ≤ e) (h : e ≤ 58) (hm : m < 16) : wrap64 ((16 + (m : Int)) * 2 ^ e) = (Sm.lst (16 * e + (16 + m)) : Int) := by
  have hl := Sm.lst_eq e m he hm
  have hp : 2 ^ e ≤ 2 ^ 58 := Nat.pow_le_pow_right (by decide) h
  have hx : (16 + m) * 2 ^ e ≤ 31 * 2 ^ 58 := Nat.mul_le_mul (by omega) hp
  have hc : (16 + (m : Int)) * 2 ^ e = (((16 + m) * 2 ^ e : Nat) : Int) := by simp
  rw [hc, hl]
  generalize (16 + m) * 2 ^ e = X at hx
  unfold wrap64
  omega
set_option maxHeartbeats 4000000 in
set_option maxRecDepth 100000 in
theorem sketch_least.calls (a0 : Int) (r : Int) (w : World) (h : sketch_least.f a0 = some r) :
    Calls Try.prog 35 #[.int .i64 a0] w fun e w' => e = .returned (.int .i64 r) ∧ Drawn0 w w' := by
  unfold sketch_least.f at h
  split at h
  case isFalse => cases h
  rename_i hn
  injection h with h
  subst h
  obtain ⟨b, rfl⟩ := Int.eq_ofNat_of_zero_le hn.1
  rw [Int.toNat_natCast]
  by_cases h32 : b < 32
  · have hs := Sm.lst_small b (by omega)
    rw [hs]
    clear hs hn
    go_enter Try.func35, Try.ntmps35
    go_wp2
    go_ret
    exact ⟨rfl, Drawn0.refl _⟩
  · obtain ⟨e, m, rfl, he, hm⟩ : ∃ e m, b = 16 * e + (16 + m) ∧ 1 ≤ e ∧ m < 16 := ⟨b / 16 - 1, b % 16, by omega, by omega, by omega⟩
    have hk := sketch_least.core e m he (by omega) hm
    have he58 : e ≤ 58 := by omega
    generalize Sm.lst (16 * e + (16 + m)) = L at hk
    obtain ⟨c, hc⟩ : ∃ c : Int, ((16 * e + (16 + m) : Nat) : Int) = c := ⟨_, rfl⟩
    rw [hc]
    have h1 : c % 16 = (m : Int) := by omega
    have h2 : c / 16 = (e : Int) + 1 := by omega
    have h3 : 0 ≤ c := by omega
    have h4 : ¬ c < 32 := by omega
    clear hc hn h32
    go_enter Try.func35, Try.ntmps35
    go_wp2
    go_ret
    exact ⟨rfl, Drawn0.refl _⟩

/-! ### sketch_Ends: function 11 -/
def sketch_Ends.f (a0 : Int) : Option (Int × Int × Int) := (sketch_is.f a0).bind fun t101 => (if t101 = true then ((sketch_least.f (mx a0 (Go.bits .xor .i64 (-1) a0))).bind fun t102 => (if (wrap64 ((mx a0 (Go.bits .xor .i64 (-1) a0)) + 1)) < 960 then ((sketch_least.f (wrap64 ((mx a0 (Go.bits .xor .i64 (-1) a0)) + 1))).bind fun t103 => (if a0 < 0 then (some (Go.bits .xor .i64 (-1) (wrap64 (t103 - 1)), Go.bits .xor .i64 (-1) t102, 0)) else (some (t102, wrap64 (t103 - 1), 0)))) else (if a0 < 0 then (some (Go.bits .xor .i64 (-1) 9223372036854775807, Go.bits .xor .i64 (-1) t102, 0)) else (some (t102, 9223372036854775807, 0))))) else (some (0, 0, 1)))
set_option maxHeartbeats 8000000 in
set_option maxRecDepth 100000 in
theorem sketch_Ends.calls (a0 : Int) (r1 : Int) (r2 : Int) (r3 : Int) (w : World) (h : sketch_Ends.f a0 = some (r1, r2, r3)) :
    Calls Try.prog 11 #[.int .i64 a0] w fun e w' => e = .returned (.tuple #[.int .i64 r1, .int .i64 r2, .int .i64 r3]) ∧ Below w.heap.size w w' := by
  have HB := Aside0.mk (Below.refl w.heap.size w)
  have H : ((sketch_is.f a0).bind fun t101 => (if t101 = true then ((sketch_least.f (mx a0 (Go.bits .xor .i64 (-1) a0))).bind fun t102 => (if (wrap64 ((mx a0 (Go.bits .xor .i64 (-1) a0)) + 1)) < 960 then ((sketch_least.f (wrap64 ((mx a0 (Go.bits .xor .i64 (-1) a0)) + 1))).bind fun t103 => (if a0 < 0 then (some (Go.bits .xor .i64 (-1) (wrap64 (t103 - 1)), Go.bits .xor .i64 (-1) t102, 0)) else (some (t102, wrap64 (t103 - 1), 0)))) else (if a0 < 0 then (some (Go.bits .xor .i64 (-1) 9223372036854775807, Go.bits .xor .i64 (-1) t102, 0)) else (some (t102, 9223372036854775807, 0))))) else (some (0, 0, 1)))) = some (r1, r2, r3) := h
  clear h
  replace H := Option.bind_eq_some_iff.mp H
  obtain ⟨t101, A20, H⟩ := H
  replace H : (if t101 = true then ((sketch_least.f (mx a0 (Go.bits .xor .i64 (-1) a0))).bind fun t102 => (if (wrap64 ((mx a0 (Go.bits .xor .i64 (-1) a0)) + 1)) < 960 then ((sketch_least.f (wrap64 ((mx a0 (Go.bits .xor .i64 (-1) a0)) + 1))).bind fun t103 => (if a0 < 0 then (some (Go.bits .xor .i64 (-1) (wrap64 (t103 - 1)), Go.bits .xor .i64 (-1) t102, 0)) else (some (t102, wrap64 (t103 - 1), 0)))) else (if a0 < 0 then (some (Go.bits .xor .i64 (-1) 9223372036854775807, Go.bits .xor .i64 (-1) t102, 0)) else (some (t102, 9223372036854775807, 0))))) else (some (0, 0, 1))) = some (r1, r2, r3) := H
  have A2 := Aside0.mk A20
  clear A20
  by_cases c3 : t101 = true
  · subst c3
    have H1 : ((sketch_least.f (mx a0 (Go.bits .xor .i64 (-1) a0))).bind fun t102 => (if (wrap64 ((mx a0 (Go.bits .xor .i64 (-1) a0)) + 1)) < 960 then ((sketch_least.f (wrap64 ((mx a0 (Go.bits .xor .i64 (-1) a0)) + 1))).bind fun t103 => (if a0 < 0 then (some (Go.bits .xor .i64 (-1) (wrap64 (t103 - 1)), Go.bits .xor .i64 (-1) t102, 0)) else (some (t102, wrap64 (t103 - 1), 0)))) else (if a0 < 0 then (some (Go.bits .xor .i64 (-1) 9223372036854775807, Go.bits .xor .i64 (-1) t102, 0)) else (some (t102, 9223372036854775807, 0))))) = some (r1, r2, r3) := by rw [if_pos rfl] at H; exact H
    clear H
    have H := H1
    clear H1
    obtain ⟨ji4, hji4⟩ : ∃ j_ : Int, (mx a0 (Go.bits .xor .i64 (-1) a0)) = j_ := ⟨_, rfl⟩
    replace H : ((sketch_least.f (ji4)).bind fun t102 => (if (wrap64 ((ji4) + 1)) < 960 then ((sketch_least.f (wrap64 ((ji4) + 1))).bind fun t103 => (if a0 < 0 then (some (Go.bits .xor .i64 (-1) (wrap64 (t103 - 1)), Go.bits .xor .i64 (-1) t102, 0)) else (some (t102, wrap64 (t103 - 1), 0)))) else (if a0 < 0 then (some (Go.bits .xor .i64 (-1) 9223372036854775807, Go.bits .xor .i64 (-1) t102, 0)) else (some (t102, 9223372036854775807, 0))))) = some (r1, r2, r3) := by first | (rw [hji4] at H; exact H) | (simp only [hji4] at H ⊢; exact H)
    (try rw [hji4] at A2)
    have hji4_ : (if a0 < (Go.bits .xor .i64 (-1) a0) then (Go.bits .xor .i64 (-1) a0) else a0) = ji4 := hji4
    replace H := Option.bind_eq_some_iff.mp H
    obtain ⟨t102, A50, H⟩ := H
    replace H : (if (wrap64 ((ji4) + 1)) < 960 then ((sketch_least.f (wrap64 ((ji4) + 1))).bind fun t103 => (if a0 < 0 then (some (Go.bits .xor .i64 (-1) (wrap64 (t103 - 1)), Go.bits .xor .i64 (-1) t102, 0)) else (some (t102, wrap64 (t103 - 1), 0)))) else (if a0 < 0 then (some (Go.bits .xor .i64 (-1) 9223372036854775807, Go.bits .xor .i64 (-1) t102, 0)) else (some (t102, 9223372036854775807, 0)))) = some (r1, r2, r3) := H
    have A5 := Aside0.mk A50
    clear A50
    by_cases c6 : (wrap64 ((ji4) + 1)) < 960
    · rw [if_pos c6] at H
      have c6b0 : decide ((wrap64 ((ji4) + 1)) < 960) = true := decide_eq_true c6
      clear c6
      replace H := Option.bind_eq_some_iff.mp H
      obtain ⟨t103, A70, H⟩ := H
      replace H : (if a0 < 0 then (some (Go.bits .xor .i64 (-1) (wrap64 (t103 - 1)), Go.bits .xor .i64 (-1) t102, 0)) else (some (t102, wrap64 (t103 - 1), 0))) = some (r1, r2, r3) := H
      have A7 := Aside0.mk A70
      clear A70
      by_cases c8 : a0 < 0
      · rw [if_pos c8] at H
        have c8b0 : decide (a0 < 0) = true := decide_eq_true c8
        clear c8
        simp only [Option.some.injEq, Prod.mk.injEq] at H
        obtain ⟨rfl, rfl, rfl⟩ := H
        have hsg_ : IntKind.i64.signed = true := rfl
        go_enter Try.func11, Try.ntmps11
        go_wp2_with (first | ((with_reducible refine gate_callee (f := 34) rfl ?_); refine goesL_ (some 9) rfl rfl Try.func34 (by kernel_rfl) rfl #[.int .i64 a0] rfl (by (try simp only [List.map_toArray, List.map_cons, List.map_nil]); first | done | rfl | (simp only [List.length_drop, List.length_take]; rfl)) ?_; (with_reducible refine (sketch_is.calls a0 true _ A2.out).mono ?_); rintro e w' ⟨rfl, ⟨nd, rfl⟩⟩; refine ⟨_, rfl, ?_⟩) | ((with_reducible refine gate_callee (f := 35) rfl ?_); refine goesL_ (some 16) rfl rfl Try.func35 (by kernel_rfl) rfl #[.int .i64 ji4] rfl (by (try simp only [List.map_toArray, List.map_cons, List.map_nil]); first | done | (simp only [hji4]; rfl) | rfl | (simp only [List.length_drop, List.length_take]; rfl)) ?_; (with_reducible refine (sketch_least.calls ji4 t102 _ A5.out).mono ?_); rintro e w' ⟨rfl, ⟨nd, rfl⟩⟩; refine ⟨_, rfl, ?_⟩) | ((with_reducible refine gate_callee (f := 35) rfl ?_); refine goesL_ (some 22) rfl rfl Try.func35 (by kernel_rfl) rfl #[.int .i64 (wrap64 ((ji4) + 1))] rfl (by (try simp only [List.map_toArray, List.map_cons, List.map_nil]); first | done | (simp only [hji4]; rfl) | rfl | (simp only [List.length_drop, List.length_take]; rfl)) ?_; (with_reducible refine (sketch_least.calls (wrap64 ((ji4) + 1)) t103 _ A7.out).mono ?_); rintro e w' ⟨rfl, ⟨nd, rfl⟩⟩; refine ⟨_, rfl, ?_⟩))
        go_ret3
        exact ⟨by first | rfl | (simp [errW_none, errW_some] <;> rfl) | (simp only [← hji4]; first | rfl | (simp [errW_none, errW_some] <;> rfl)) | (simp [*, errW_none, errW_some] <;> rfl), by repeat (first | (with_reducible first | exact HB.out | apply below_alloc | apply pw_below_drewN | apply below_drew1) | exact HB.out)⟩
      · rw [if_neg c8] at H
        have c8b0 : decide (a0 < 0) = false := decide_eq_false c8
        clear c8
        simp only [Option.some.injEq, Prod.mk.injEq] at H
        obtain ⟨rfl, rfl, rfl⟩ := H
        have hsg_ : IntKind.i64.signed = true := rfl
        go_enter Try.func11, Try.ntmps11
        go_wp2_with (first | ((with_reducible refine gate_callee (f := 34) rfl ?_); refine goesL_ (some 9) rfl rfl Try.func34 (by kernel_rfl) rfl #[.int .i64 a0] rfl (by (try simp only [List.map_toArray, List.map_cons, List.map_nil]); first | done | rfl | (simp only [List.length_drop, List.length_take]; rfl)) ?_; (with_reducible refine (sketch_is.calls a0 true _ A2.out).mono ?_); rintro e w' ⟨rfl, ⟨nd, rfl⟩⟩; refine ⟨_, rfl, ?_⟩) | ((with_reducible refine gate_callee (f := 35) rfl ?_); refine goesL_ (some 16) rfl rfl Try.func35 (by kernel_rfl) rfl #[.int .i64 ji4] rfl (by (try simp only [List.map_toArray, List.map_cons, List.map_nil]); first | done | (simp only [hji4]; rfl) | rfl | (simp only [List.length_drop, List.length_take]; rfl)) ?_; (with_reducible refine (sketch_least.calls ji4 t102 _ A5.out).mono ?_); rintro e w' ⟨rfl, ⟨nd, rfl⟩⟩; refine ⟨_, rfl, ?_⟩) | ((with_reducible refine gate_callee (f := 35) rfl ?_); refine goesL_ (some 22) rfl rfl Try.func35 (by kernel_rfl) rfl #[.int .i64 (wrap64 ((ji4) + 1))] rfl (by (try simp only [List.map_toArray, List.map_cons, List.map_nil]); first | done | (simp only [hji4]; rfl) | rfl | (simp only [List.length_drop, List.length_take]; rfl)) ?_; (with_reducible refine (sketch_least.calls (wrap64 ((ji4) + 1)) t103 _ A7.out).mono ?_); rintro e w' ⟨rfl, ⟨nd, rfl⟩⟩; refine ⟨_, rfl, ?_⟩))
        go_ret3
        exact ⟨by first | rfl | (simp [errW_none, errW_some] <;> rfl) | (simp only [← hji4]; first | rfl | (simp [errW_none, errW_some] <;> rfl)) | (simp [*, errW_none, errW_some] <;> rfl), by repeat (first | (with_reducible first | exact HB.out | apply below_alloc | apply pw_below_drewN | apply below_drew1) | exact HB.out)⟩
    · rw [if_neg c6] at H
      have c6b0 : decide ((wrap64 ((ji4) + 1)) < 960) = false := decide_eq_false c6
      clear c6
      by_cases c9 : a0 < 0
      · rw [if_pos c9] at H
        have c9b0 : decide (a0 < 0) = true := decide_eq_true c9
        clear c9
        simp only [Option.some.injEq, Prod.mk.injEq] at H
        obtain ⟨rfl, rfl, rfl⟩ := H
        have hsg_ : IntKind.i64.signed = true := rfl
        go_enter Try.func11, Try.ntmps11
        go_wp2_with (first | ((with_reducible refine gate_callee (f := 34) rfl ?_); refine goesL_ (some 9) rfl rfl Try.func34 (by kernel_rfl) rfl #[.int .i64 a0] rfl (by (try simp only [List.map_toArray, List.map_cons, List.map_nil]); first | done | rfl | (simp only [List.length_drop, List.length_take]; rfl)) ?_; (with_reducible refine (sketch_is.calls a0 true _ A2.out).mono ?_); rintro e w' ⟨rfl, ⟨nd, rfl⟩⟩; refine ⟨_, rfl, ?_⟩) | ((with_reducible refine gate_callee (f := 35) rfl ?_); refine goesL_ (some 16) rfl rfl Try.func35 (by kernel_rfl) rfl #[.int .i64 ji4] rfl (by (try simp only [List.map_toArray, List.map_cons, List.map_nil]); first | done | (simp only [hji4]; rfl) | rfl | (simp only [List.length_drop, List.length_take]; rfl)) ?_; (with_reducible refine (sketch_least.calls ji4 t102 _ A5.out).mono ?_); rintro e w' ⟨rfl, ⟨nd, rfl⟩⟩; refine ⟨_, rfl, ?_⟩))
        go_ret3
        exact ⟨by first | rfl | (simp [errW_none, errW_some] <;> rfl) | (simp only [← hji4]; first | rfl | (simp [errW_none, errW_some] <;> rfl)) | (simp [*, errW_none, errW_some] <;> rfl), by repeat (first | (with_reducible first | exact HB.out | apply below_alloc | apply pw_below_drewN | apply below_drew1) | exact HB.out)⟩
      · rw [if_neg c9] at H
        have c9b0 : decide (a0 < 0) = false := decide_eq_false c9
        clear c9
        simp only [Option.some.injEq, Prod.mk.injEq] at H
        obtain ⟨rfl, rfl, rfl⟩ := H
        have hsg_ : IntKind.i64.signed = true := rfl
        go_enter Try.func11, Try.ntmps11
        go_wp2_with (first | ((with_reducible refine gate_callee (f := 34) rfl ?_); refine goesL_ (some 9) rfl rfl Try.func34 (by kernel_rfl) rfl #[.int .i64 a0] rfl (by (try simp only [List.map_toArray, List.map_cons, List.map_nil]); first | done | rfl | (simp only [List.length_drop, List.length_take]; rfl)) ?_; (with_reducible refine (sketch_is.calls a0 true _ A2.out).mono ?_); rintro e w' ⟨rfl, ⟨nd, rfl⟩⟩; refine ⟨_, rfl, ?_⟩) | ((with_reducible refine gate_callee (f := 35) rfl ?_); refine goesL_ (some 16) rfl rfl Try.func35 (by kernel_rfl) rfl #[.int .i64 ji4] rfl (by (try simp only [List.map_toArray, List.map_cons, List.map_nil]); first | done | (simp only [hji4]; rfl) | rfl | (simp only [List.length_drop, List.length_take]; rfl)) ?_; (with_reducible refine (sketch_least.calls ji4 t102 _ A5.out).mono ?_); rintro e w' ⟨rfl, ⟨nd, rfl⟩⟩; refine ⟨_, rfl, ?_⟩))
        go_ret3
        exact ⟨by first | rfl | (simp [errW_none, errW_some] <;> rfl) | (simp only [← hji4]; first | rfl | (simp [errW_none, errW_some] <;> rfl)) | (simp [*, errW_none, errW_some] <;> rfl), by repeat (first | (with_reducible first | exact HB.out | apply below_alloc | apply pw_below_drewN | apply below_drew1) | exact HB.out)⟩
  · replace c3 := Bool.eq_false_iff.mpr c3
    subst c3
    have H1 : (some (0, 0, 1)) = some (r1, r2, r3) := by rw [if_neg (show ¬ (false = true) by decide)] at H; exact H
    clear H
    have H := H1
    clear H1
    simp only [Option.some.injEq, Prod.mk.injEq] at H
    obtain ⟨rfl, rfl, rfl⟩ := H
    have hsg_ : IntKind.i64.signed = true := rfl
    go_enter Try.func11, Try.ntmps11
    go_wp2_with (first | ((with_reducible refine gate_callee (f := 34) rfl ?_); refine goesL_ (some 9) rfl rfl Try.func34 (by kernel_rfl) rfl #[.int .i64 a0] rfl (by (try simp only [List.map_toArray, List.map_cons, List.map_nil]); first | done | rfl | (simp only [List.length_drop, List.length_take]; rfl)) ?_; (with_reducible refine (sketch_is.calls a0 false _ A2.out).mono ?_); rintro e w' ⟨rfl, ⟨nd, rfl⟩⟩; refine ⟨_, rfl, ?_⟩))
    go_ret3
    exact ⟨by first | rfl | (simp [errW_none, errW_some] <;> rfl) | (simp [*, errW_none, errW_some] <;> rfl), by repeat (first | (with_reducible first | exact HB.out | apply below_alloc | apply pw_below_drewN | apply below_drew1) | exact HB.out)⟩

/-! ### headgateref29_Ends: function 12 -/
mutual
def headgateref29_Ends.j0 : Nat → Int → Bool → Option (Int × Int × Int)
  | 0, _, _ => none
  | k + 1, x0, x17 => if x17 = true then (some (0, 0, 1)) else (if x0 < 0 then ((headgateref29_Ends.f k (wrap64 ((-1) - x0))).bind fun bt104 => (some (wrap64 ((-1) - bt104.2.1), wrap64 ((-1) - bt104.1), 0))) else (if x0 < 32 then (some (x0, x0, 0)) else (headgateref29_Ends.l0 k (wrap64 ((wrap64 (Int.tdiv x0 16)) - 1)) (wrap64 (x0 - (wrap64 (16 * (wrap64 ((wrap64 (Int.tdiv x0 16)) - 1)))))) 1 0)))
def headgateref29_Ends.l0 : Nat → Int → Int → Int → Int → Option (Int × Int × Int)
  | 0, _, _, _, _ => none
  | k + 1, x8, x9, x10, x11 => if x11 < x8 then (headgateref29_Ends.l0 k x8 (wrap64 (x9 * 2)) (wrap64 (x10 * 2)) (wrap64 (x11 + 1))) else (some (x9, wrap64 (x9 + (wrap64 (x10 - 1))), 0))
def headgateref29_Ends.f : Nat → Int → Option (Int × Int × Int)
  | 0, _ => none
  | k + 1, a0 => if a0 < (-960) then (headgateref29_Ends.j0 k a0 true) else (headgateref29_Ends.j0 k a0 (decide (a0 ≥ 960)))
end
theorem headgateref29_Ends.mono_l : ∀ k, (∀ y0, LeO (headgateref29_Ends.f k y0) (headgateref29_Ends.f (k + 1) y0)) ∧ (∀ y0 y1, LeO (headgateref29_Ends.j0 k y0 y1) (headgateref29_Ends.j0 (k + 1) y0 y1)) ∧ (∀ y0 y1 y2 y3, LeO (headgateref29_Ends.l0 k y0 y1 y2 y3) (headgateref29_Ends.l0 (k + 1) y0 y1 y2 y3))
  | 0 => ⟨fun _ r h => by simp [headgateref29_Ends.f] at h, fun _ _ r h => by simp [headgateref29_Ends.j0] at h, fun _ _ _ _ r h => by simp [headgateref29_Ends.l0] at h⟩
  | k + 1 => by
    obtain ⟨ih0, ih1, ih2⟩ := headgateref29_Ends.mono_l k
    refine ⟨?_, ?_, ?_⟩
    · intro y0
      unfold headgateref29_Ends.f
      repeat' first
      | (with_reducible exact ih0 _)
      | (with_reducible exact ih1 _ _)
      | (with_reducible exact ih2 _ _ _ _)
      | (with_reducible exact LeO.refl _)
      | (with_reducible exact LeO.none _)
      | (with_reducible refine LeO.ite ?_ ?_)
      | (with_reducible refine LeO.bind ?_ (fun _ => ?_))
      | exact ih0 _
      | exact ih1 _ _
      | exact ih2 _ _ _ _
      | exact LeO.none _
      | refine LeO.ite ?_ ?_
      | refine LeO.bind ?_ (fun _ => ?_)
    · intro y0 y1
      unfold headgateref29_Ends.j0
      repeat' first
      | (with_reducible exact ih0 _)
      | (with_reducible exact ih1 _ _)
      | (with_reducible exact ih2 _ _ _ _)
      | (with_reducible exact LeO.refl _)
      | (with_reducible exact LeO.none _)
      | (with_reducible refine LeO.ite ?_ ?_)
      | (with_reducible refine LeO.bind ?_ (fun _ => ?_))
      | exact ih0 _
      | exact ih1 _ _
      | exact ih2 _ _ _ _
      | exact LeO.none _
      | refine LeO.ite ?_ ?_
      | refine LeO.bind ?_ (fun _ => ?_)
    · intro y0 y1 y2 y3
      unfold headgateref29_Ends.l0
      repeat' first
      | (with_reducible exact ih0 _)
      | (with_reducible exact ih1 _ _)
      | (with_reducible exact ih2 _ _ _ _)
      | (with_reducible exact LeO.refl _)
      | (with_reducible exact LeO.none _)
      | (with_reducible refine LeO.ite ?_ ?_)
      | (with_reducible refine LeO.bind ?_ (fun _ => ?_))
      | exact ih0 _
      | exact ih1 _ _
      | exact ih2 _ _ _ _
      | exact LeO.none _
      | refine LeO.ite ?_ ?_
      | refine LeO.bind ?_ (fun _ => ?_)
theorem headgateref29_Ends.mono : ∀ a0 k, LeO (headgateref29_Ends.f k a0) (headgateref29_Ends.f (k + 1) a0) := by
  intro a0 k
  obtain ⟨ih0, ih1, ih2⟩ := headgateref29_Ends.mono_l k
  exact ih0 a0
set_option maxHeartbeats 8000000 in
set_option maxRecDepth 100000 in
theorem headgateref29_Ends.calls (k : Nat) : ∀ (a0 : Int) (r1 : Int) (r2 : Int) (r3 : Int) (w : World) (h : headgateref29_Ends.f k a0 = some (r1, r2, r3)),
    Calls Try.prog 12 #[.int .i64 a0] w fun e w' => e = .returned (.tuple #[.int .i64 r1, .int .i64 r2, .int .i64 r3]) ∧ Drawn0 w w' := by
  induction k using Nat.strongRecOn with
  | _ k ih =>
  intro a0 r1 r2 r3 w h
  cases k with
  | zero => exact absurd h (by simp [headgateref29_Ends.f])
  | succ k =>
  simp only [headgateref29_Ends.f] at h
  have H : (if a0 < (-960) then (headgateref29_Ends.j0 k a0 true) else (headgateref29_Ends.j0 k a0 (decide (a0 ≥ 960)))) = some (r1, r2, r3) := h
  clear h
  have HC2 := Aside0.mk H
  clear H
  go_enter Try.func12, Try.ntmps12
  go_upto_region 1 with (fail)
  go_cut [17] (fun v17 wc => ∃ (kq : Nat) (x17_1 : Bool), v17 = .bool x17_1 ∧ Aside0 (headgateref29_Ends.j0 kq a0 x17_1 = some (r1, r2, r3)) ∧ Aside0 (kq ≤ k) ∧ Drawn0 w wc)
  case first =>
    have H := HC2.out
    clear HC2
    by_cases c3 : a0 < (-960)
    · rw [if_pos c3] at H
      have c3b0 : decide (a0 < (-960)) = true := decide_eq_true c3
      clear c3
      (first | rw [c3b0] | rw [c3b9] | (simp only [i64_w, i32_w]; rw [c3b0]) | skip)
      have H' := Aside0.mk H
      clear H
      go_wp2
      go_meet
      case rel => exact ⟨_, (true), (by first | rfl | (simp; done) | (simp [*]; done)), H', ⟨by first | omega | exact Nat.le_refl _⟩, by repeat (first | exact Drawn0.refl _ | apply Drawn0.step)⟩
    · rw [if_neg c3] at H
      have c3b0 : decide (a0 < (-960)) = false := decide_eq_false c3
      clear c3
      (first | rw [c3b0] | rw [c3b9] | (simp only [i64_w, i32_w]; rw [c3b0]) | skip)
      have H' := Aside0.mk H
      clear H
      go_wp2
      go_meet
      case rel => exact ⟨_, (decide (a0 ≥ 960)), (by first | rfl | (simp; done) | (simp [*]; done)), H', ⟨by first | omega | exact Nat.le_refl _⟩, by repeat (first | exact Drawn0.refl _ | apply Drawn0.step)⟩
  case rest =>
    clear HC2
    try clear c1
    try clear p2
    try clear c3
    try clear c3b0
    obtain ⟨kq, x17_1, rfl, HA, HJ1, ⟨mc1, rfl⟩⟩ := hcut
    cases kq with
    | zero => exact absurd HA.out (by simp [headgateref29_Ends.j0])
    | succ kj1 =>
      have H := HA.out
      clear HA
      simp only [headgateref29_Ends.j0] at H
      by_cases c4 : x17_1 = true
      · subst c4
        have H1 : (some (0, 0, 1)) = some (r1, r2, r3) := by rw [if_pos rfl] at H; exact H
        clear H
        have H := H1
        clear H1
        simp only [Option.some.injEq, Prod.mk.injEq] at H
        obtain ⟨rfl, rfl, rfl⟩ := H
        go_wp2
        go_ret3
        exact ⟨by first | rfl | (simp; done) | (simp [*]; done), by repeat (first | exact Drawn0.refl _ | apply Drawn0.step)⟩
      · replace c4 := Bool.eq_false_iff.mpr c4
        subst c4
        have H1 : (if a0 < 0 then ((headgateref29_Ends.f kj1 (wrap64 ((-1) - a0))).bind fun bt104 => (some (wrap64 ((-1) - bt104.2.1), wrap64 ((-1) - bt104.1), 0))) else (if a0 < 32 then (some (a0, a0, 0)) else (headgateref29_Ends.l0 kj1 (wrap64 ((wrap64 (Int.tdiv a0 16)) - 1)) (wrap64 (a0 - (wrap64 (16 * (wrap64 ((wrap64 (Int.tdiv a0 16)) - 1)))))) 1 0))) = some (r1, r2, r3) := by rw [if_neg (show ¬ (false = true) by decide)] at H; exact H
        clear H
        have H := H1
        clear H1
        by_cases c5 : a0 < 0
        · rw [if_pos c5] at H
          have c5b0 : decide (a0 < 0) = true := decide_eq_true c5
          clear c5
          replace H := Option.bind_eq_some_iff.mp H
          obtain ⟨⟨t104, t105, t106⟩, A60, H⟩ := H
          replace H : (some (wrap64 ((-1) - t105), wrap64 ((-1) - t104), 0)) = some (r1, r2, r3) := H
          have A6 := Aside0.mk A60
          clear A60
          simp only [Option.some.injEq, Prod.mk.injEq] at H
          obtain ⟨rfl, rfl, rfl⟩ := H
          go_wp2_with (first | ((with_reducible refine gate_callee (f := 12) rfl ?_); refine goesL_ (some 23) rfl rfl Try.func12 (by kernel_rfl) rfl #[.int .i64 (wrap64 ((-1) - a0))] rfl (by (try simp only [List.map_toArray, List.map_cons, List.map_nil]); first | done | rfl | (simp only [List.length_drop, List.length_take]; rfl)) ?_; (with_reducible refine (ih kj1 (by have := HJ1.out; omega) (wrap64 ((-1) - a0)) t104 t105 t106 _ A6.out).mono ?_); rintro e w' ⟨rfl, ⟨nd, rfl⟩⟩; refine ⟨_, rfl, ?_⟩))
          go_ret3
          exact ⟨by first | rfl | (simp; done) | (simp [*]; done), by repeat (first | exact Drawn0.refl _ | apply Drawn0.step)⟩
        · rw [if_neg c5] at H
          have c5b0 : decide (a0 < 0) = false := decide_eq_false c5
          clear c5
          by_cases c7 : a0 < 32
          · rw [if_pos c7] at H
            have c7b0 : decide (a0 < 32) = true := decide_eq_true c7
            clear c7
            simp only [Option.some.injEq, Prod.mk.injEq] at H
            obtain ⟨rfl, rfl, rfl⟩ := H
            go_wp2
            go_ret3
            exact ⟨by first | rfl | (simp; done) | (simp [*]; done), by repeat (first | exact Drawn0.refl _ | apply Drawn0.step)⟩
          · rw [if_neg c7] at H
            have c7b0 : decide (a0 < 32) = false := decide_eq_false c7
            clear c7
            have H' := Aside0.mk H
            clear H
            go_wp2
            go_loopg [9, 10, 11] kj1 (fun kq v9 v10 v11 w' => ∃ (x9_2 : Int) (x10_2 : Int) (x11_2 : Int), v9 = .int .i64 x9_2 ∧ v10 = .int .i64 x10_2 ∧ v11 = .int .i64 x11_2 ∧ Aside0 (headgateref29_Ends.l0 kq (wrap64 ((wrap64 (Int.tdiv a0 16)) - 1)) x9_2 x10_2 x11_2 = some (r1, r2, r3)) ∧ Aside0 (kq ≤ kj1) ∧ Drawn0 w w')
            case atStart => exact ⟨(wrap64 (a0 - (wrap64 (16 * (wrap64 ((wrap64 (Int.tdiv a0 16)) - 1)))))), (1), (0), (by first | rfl | (simp; done) | (simp [*]; done)), (by first | rfl | (simp; done) | (simp [*]; done)), (by first | rfl | (simp; done) | (simp [*]; done)), H', ⟨Nat.le_refl _⟩, by repeat (first | exact Drawn0.refl _ | apply Drawn0.step)⟩
            case round =>
              clear H'
              try clear c1
              try clear p2
              try clear c3
              try clear c3b0
              try clear c4
              try clear c5
              try clear c5b0
              try clear p6
              try clear c7
              try clear c7b0
              try clear p2
              obtain ⟨x9_2, x10_2, x11_2, rfl, rfl, rfl, HA, HK2, ⟨m2, rfl⟩⟩ := hrel
              cases gk with
              | zero => exact absurd HA.out (by simp [headgateref29_Ends.l0])
              | succ k2 =>
                have H := HA.out
                clear HA
                simp only [headgateref29_Ends.l0] at H
                by_cases c8 : x11_2 < (wrap64 ((wrap64 (Int.tdiv a0 16)) - 1))
                · rw [if_pos c8] at H
                  have c8b0 : decide (x11_2 < (wrap64 ((wrap64 (Int.tdiv a0 16)) - 1))) = true := decide_eq_true c8
                  clear c8
                  have H' := Aside0.mk H
                  clear H
                  go_wp2
                  go_roundg k2
                  case measure => have := HJ1.out; have := HK2.out; omega
                  case rel => exact ⟨(wrap64 (x9_2 * 2)), (wrap64 (x10_2 * 2)), (wrap64 (x11_2 + 1)), (by first | rfl | (simp; done) | (simp [*]; done)), (by first | rfl | (simp; done) | (simp [*]; done)), (by first | rfl | (simp; done) | (simp [*]; done)), H', ⟨by have := HJ1.out; have := HK2.out; omega⟩, by repeat (first | exact Drawn0.refl _ | apply Drawn0.step)⟩
                · rw [if_neg c8] at H
                  have c8b0 : decide (x11_2 < (wrap64 ((wrap64 (Int.tdiv a0 16)) - 1))) = false := decide_eq_false c8
                  clear c8
                  simp only [Option.some.injEq, Prod.mk.injEq] at H
                  obtain ⟨rfl, rfl, rfl⟩ := H
                  go_wp2
                  go_ret3
                  exact ⟨by first | rfl | (simp; done) | (simp [*]; done), by repeat (first | exact Drawn0.refl _ | apply Drawn0.step)⟩

/-! ### bits_Len64: function 46 -/
def bits_Len64.f (a0 : Int) : Option Int := if 0 ≤ a0 ∧ a0 ≤ 18446744073709551615 then some (Lib.bitLen a0.toNat : Int) else none
theorem bits_Len64.calls (a0 : Int) (r : Int) (w : World) (h : bits_Len64.f a0 = some r) :
    Calls Try.prog 46 #[.int .u64 a0] w fun e w' => e = .returned (.int .i64 r) ∧ Drawn0 w w' := by
  unfold bits_Len64.f at h
  split at h
  case isFalse => cases h
  rename_i hn
  injection h with h
  subst h
  refine (Len.len64 a0 w hn.1 hn.2).mono ?_
  rintro e w' ⟨rfl, rfl⟩
  exact ⟨rfl, Drawn0.refl _⟩

/-! ### sketch_place: function 36 -/
def sketch_place.f (a0 : Int) : Option Int := if 0 ≤ a0 ∧ a0 ≤ 9223372036854775807 then some (Sm.pl a0.toNat : Int) else none
theorem sketch_place.core (v : Nat) (hv : v ≤ 9223372036854775807) : (Lib.bitLen v < 5 ∧ Sm.pl v = v) ∨ ∃ e q : Nat, Lib.bitLen v = e + 5 ∧ e ≤ 60 ∧ v / 2 ^ e = q ∧ q ≤ 31 ∧ Sm.pl v = 16 * e + q := by
  rcases Nat.lt_or_ge v 32 with h | h
  · have h5 := Lib.bitLen_le v 5 (by decide) (by omega)
    have hp : Sm.pl v = v := by unfold Sm.pl; rw [if_pos h]
    rcases Nat.lt_or_ge (Lib.bitLen v) 5 with h6 | h6
    · exact .inl ⟨h6, hp⟩
    · exact .inr ⟨0, v, by omega, by omega, by simp, by omega, by omega⟩
  · obtain ⟨e, h1, h2, h3, h4⟩ := Sm.bits_of v h (by omega)
    have hp : 0 < 2 ^ e := Nat.pow_pos (by decide)
    have h63 := Lib.bitLen_le v 63 (by decide) (by omega)
    refine .inr ⟨e, v / 2 ^ e, h2, by omega, rfl, ?_, Sm.pl_eq v e h1 h3 h4 (by omega)⟩
    have : v / 2 ^ e < 32 := by rw [Nat.div_lt_iff_lt_mul hp]; omega
    omega
set_option maxHeartbeats 4000000 in
set_option maxRecDepth 100000 in
theorem sketch_place.calls (a0 : Int) (r : Int) (w : World) (h : sketch_place.f a0 = some r) :
    Calls Try.prog 36 #[.int .i64 a0] w fun e w' => e = .returned (.int .i64 r) ∧ Drawn0 w w' := by
  unfold sketch_place.f at h
  split at h
  case isFalse => cases h
  rename_i hn
  injection h with h
  subst h
  obtain ⟨v, rfl⟩ := Int.eq_ofNat_of_zero_le hn.1
  rw [Int.toNat_natCast]
  have hw : IntKind.u64.wrap (v : Int) = (v : Int) := by rw [IntKind.wrap_u64]; omega
  have hlen : bits_Len64.f (v : Int) = some (Lib.bitLen v : Int) := if_pos (by omega)
  rcases sketch_place.core v (by omega) with ⟨h1, h2⟩ | ⟨e, q, h1, h2, h3, h4, h5⟩
  · have hneg : decide ((Lib.bitLen v : Int) < 5) = true := decide_eq_true (by omega)
    have hneg2 : decide ((Lib.bitLen v : Int) - 5 < 0) = true := decide_eq_true (by omega)
    rw [h2]
    have HL := Lib.hid hlen
    clear hlen h2 hn
    generalize Lib.bitLen v = L at HL h1 hneg hneg2
    go_enter Try.func36, Try.ntmps36
    go_wp2_with (go_at_call 46; refine (bits_Len64.calls _ _ _ HL.out).mono ?_)
    rintro e w' ⟨rfl, hd⟩
    have HD := Aside0.mk hd
    clear hd
    go_wp2
    go_ret
    exact ⟨rfl, HD.out⟩
  · rw [h1] at hlen
    rw [h5]
    have hc : (((e + 5 : Nat)) : Int) = (e : Int) + 5 := by omega
    rw [hc] at hlen
    have hq : (v : Int) / 2 ^ e = (q : Int) := by rw [← h3]; simp
    have HL := Lib.hid hlen
    clear hlen h1 h3 h5 hc hn
    go_enter Try.func36, Try.ntmps36
    go_wp2_with (go_at_call 46; refine (bits_Len64.calls _ _ _ HL.out).mono ?_)
    rintro e w' ⟨rfl, hd⟩
    have HD := Aside0.mk hd
    clear hd
    go_wp2
    go_ret
    refine ⟨?_, HD.out⟩
    simp
    omega

/-! ### sketch_Of: function 13 -/
def sketch_Of.f (a0 : Int) : Option Int := if Vm.I64 a0 then some (Sm.bk a0) else none
set_option maxHeartbeats 4000000 in
set_option maxRecDepth 100000 in
theorem sketch_Of.calls (a0 : Int) (r : Int) (w : World) (h : sketch_Of.f a0 = some r) :
    Calls Try.prog 13 #[.int .i64 a0] w fun e w' => e = .returned (.int .i64 r) ∧ Drawn0 w w' := by
  unfold sketch_Of.f at h
  split at h
  case isFalse => cases h
  rename_i hn
  injection h with h
  subst h
  have hx := Len.notx a0 hn
  have hsg : IntKind.i64.signed = true := rfl
  unfold Sm.bk
  unfold Vm.I64 at hn
  by_cases h0 : a0 < 0
  · rw [if_pos h0]
    have hp : sketch_place.f (-1 - a0) = some (Sm.pl (-1 - a0).toNat : Int) := if_pos (by omega)
    have hl := Sm.pl_lt (-1 - a0).toNat (by omega)
    generalize Sm.pl (-1 - a0).toNat = p at hp hl
    have hy := Len.notx (p : Int) (by unfold Vm.I64; omega)
    generalize -1 - a0 = y at hp hx
    generalize -1 - (p : Int) = z at hy
    have HP := Lib.hid hp
    clear hp hn hl
    go_enter Try.func13, Try.ntmps13
    go_wp2_with fail
    refine (sketch_place.calls y p _ HP.out).mono ?_
    rintro e w' ⟨rfl, hd⟩
    have HD := Aside0.mk hd
    clear hd
    go_wp2
    go_ret
    exact ⟨rfl, HD.out⟩
  · rw [if_neg h0]
    have hp : sketch_place.f a0 = some (Sm.pl a0.toNat : Int) := if_pos (by omega)
    generalize (Sm.pl a0.toNat : Int) = p at hp
    have HP := Lib.hid hp
    clear hp hn hx
    go_enter Try.func13, Try.ntmps13
    go_wp2_with fail
    refine (sketch_place.calls a0 p _ HP.out).mono ?_
    rintro e w' ⟨rfl, hd⟩
    have HD := Aside0.mk hd
    clear hd
    go_wp2
    go_ret
    exact ⟨rfl, HD.out⟩

end Go.Proofs.Ytgijangnoekbjaa.P
