-- Written by wip/mk.py of this repo: the kit's print program, with contracts of our own among its functions.
import Derived.Test.YtikbpjdgihheiaaPx0
import Derived.Test.YtikbpjdgihheiaaZz
-- pressed
namespace Go.Proofs.Ytikbpjdgihheiaa.P
open Go.RowKit Go.Proofs.YtikbpjdgihheiaaW.PrintWords Go.Proofs.YtikbpjdgihheiaaW.PrintLast Go.Proofs.YtikbpjdgihheiaaW.PrintMore
attribute [local go_sem] max2_int min2_int max_two min_two max_three min_three max_four min_four   -- for this text's walks alone
attribute [local go_sem ↓] Kp.LDAsk_in
attribute [local go_sem] Kp.LDAsk_run
set_option linter.unusedVariables false
set_option linter.unusedSimpArgs false

/-! ### wire_fields: function 38 -/
/-- The places of the numbers that a request of its kind has; false: there is no such kind. -/
def wire_fields.o (a0 : Int) : List Int := if a0 = 1 then [2] else if a0 = 2 then [2, 3, 4] else if a0 = 3 ∨ a0 = 7 then [5] else if a0 = 4 then [2, 3, 6, 7, 5, 8, 9] else if a0 = 5 then [2, 3] else if a0 = 6 then [5, 9, 10] else if a0 = 8 then [11] else if a0 = 9 ∨ a0 = 11 then [6] else if a0 = 10 then [6, 7] else []
def wire_fields.f (a0 : Int) : Option (List Int × Bool) := some (wire_fields.o a0, decide (1 ≤ a0 ∧ a0 ≤ 11))
theorem wire_fields.new (g : Nat) (xs : List Int) (W : World) (base : Nat) (hb : base ≤ W.heap.size) (hm : xs.length ≤ 100) : Kd.R (Kp.fp g) 91 (W.alloc (.cells (xs.map fun o => Value.pointer (some ⟨g, o.toNat, none⟩)).toArray 91)) base (fun _ => True) (.slice (some ⟨W.heap.size, 0, none⟩) xs.length xs.length) xs :=
  Kd.R_of_own (own_lit_of (enc := fun o : Int => Value.pointer (some ⟨g, o.toNat, none⟩)) W base 91 xs hb (by omega)) (fun _ _ => trivial)
set_option maxHeartbeats 8000000 in
set_option maxRecDepth 100000 in
theorem wire_fields.calls (g : Nat) (cs : Array Value) (a0 : Int) (r1 : List Int) (r2 : Bool) (w : World) (hb : w.heap[g]? = some (.cells cs 43 (0, 0)) ∧ cs[0]? = some (.int .i64 a0)) (h : wire_fields.f a0 = some (r1, r2)) :
    Calls Try.prog 38 #[.pointer (some ⟨g, 0, none⟩)] w fun e w' => ∃ v1_ : Value, e = .returned (.tuple #[v1_, .bool r2]) ∧ Kd.R (Kp.fp g) 91 w' w.heap.size (fun _ => True) v1_ r1 ∧ Below w.heap.size w w' := by
 have hu := Try.underlying43
 have hc := (blk_cell hb.1 0).trans hb.2
 unfold wire_fields.f at h
 obtain ⟨rfl, rfl⟩ := Prod.mk.inj (Option.some.inj h)
 clear hb h
 by_cases c1 : a0 = 1
 ·subst c1
  have e1 : wire_fields.o 1 = [2] := rfl
  rw [e1, show decide ((1 : Int) ≤ 1 ∧ (1 : Int) ≤ 11) = true from rfl]
  clear e1
  go_enter Try.func38, Try.ntmps38
  go_wp2_with (fail)
  go_ret2
  exact ⟨_, rfl, by first | exact wire_fields.new g [2] w _ (Nat.le_refl _) (by decide) | exact wire_fields.new g [2] (w.drewN _) _ (Nat.le_refl _) (by decide) | exact wire_fields.new g [2] w.drew _ (Nat.le_refl _) (by decide), by first | exact below_alloc (Below.refl _ _) _ | exact below_alloc (pw_below_drewN (Below.refl _ _) _) _ | exact below_alloc (below_drew1 (Below.refl _ _)) _⟩
 by_cases c2 : a0 = 2
 ·subst c2
  have e1 : wire_fields.o 2 = [2, 3, 4] := rfl
  rw [e1, show decide ((1 : Int) ≤ 2 ∧ (2 : Int) ≤ 11) = true from rfl]
  clear e1
  go_enter Try.func38, Try.ntmps38
  go_wp2_with (fail)
  go_still_tail 9, (by kernel_rfl)
  go_wp2_with (fail)
  go_ret2
  exact ⟨_, rfl, by first | exact wire_fields.new g [2, 3, 4] w _ (Nat.le_refl _) (by decide) | exact wire_fields.new g [2, 3, 4] (w.drewN _) _ (Nat.le_refl _) (by decide) | exact wire_fields.new g [2, 3, 4] w.drew _ (Nat.le_refl _) (by decide), by first | exact below_alloc (Below.refl _ _) _ | exact below_alloc (pw_below_drewN (Below.refl _ _) _) _ | exact below_alloc (below_drew1 (Below.refl _ _)) _⟩
 by_cases c3 : a0 = 3
 ·subst c3
  have e1 : wire_fields.o 3 = [5] := rfl
  rw [e1, show decide ((1 : Int) ≤ 3 ∧ (3 : Int) ≤ 11) = true from rfl]
  clear e1
  go_enter Try.func38, Try.ntmps38
  go_wp2_with (fail)
  go_ret2
  exact ⟨_, rfl, by first | exact wire_fields.new g [5] w _ (Nat.le_refl _) (by decide) | exact wire_fields.new g [5] (w.drewN _) _ (Nat.le_refl _) (by decide) | exact wire_fields.new g [5] w.drew _ (Nat.le_refl _) (by decide), by first | exact below_alloc (Below.refl _ _) _ | exact below_alloc (pw_below_drewN (Below.refl _ _) _) _ | exact below_alloc (below_drew1 (Below.refl _ _)) _⟩
 by_cases c7 : a0 = 7
 ·subst c7
  have e1 : wire_fields.o 7 = [5] := rfl
  rw [e1, show decide ((1 : Int) ≤ 7 ∧ (7 : Int) ≤ 11) = true from rfl]
  clear e1
  go_enter Try.func38, Try.ntmps38
  go_wp2_with (fail)
  go_ret2
  exact ⟨_, rfl, by first | exact wire_fields.new g [5] w _ (Nat.le_refl _) (by decide) | exact wire_fields.new g [5] (w.drewN _) _ (Nat.le_refl _) (by decide) | exact wire_fields.new g [5] w.drew _ (Nat.le_refl _) (by decide), by first | exact below_alloc (Below.refl _ _) _ | exact below_alloc (pw_below_drewN (Below.refl _ _) _) _ | exact below_alloc (below_drew1 (Below.refl _ _)) _⟩
 by_cases c4 : a0 = 4
 ·subst c4
  have e1 : wire_fields.o 4 = [2, 3, 6, 7, 5, 8, 9] := rfl
  rw [e1, show decide ((1 : Int) ≤ 4 ∧ (4 : Int) ≤ 11) = true from rfl]
  clear e1
  go_enter Try.func38, Try.ntmps38
  go_wp2_with (fail)
  go_still_tail 21, (by kernel_rfl)
  go_wp2_with (fail)
  go_ret2
  exact ⟨_, rfl, by first | exact wire_fields.new g [2, 3, 6, 7, 5, 8, 9] w _ (Nat.le_refl _) (by decide) | exact wire_fields.new g [2, 3, 6, 7, 5, 8, 9] (w.drewN _) _ (Nat.le_refl _) (by decide) | exact wire_fields.new g [2, 3, 6, 7, 5, 8, 9] w.drew _ (Nat.le_refl _) (by decide), by first | exact below_alloc (Below.refl _ _) _ | exact below_alloc (pw_below_drewN (Below.refl _ _) _) _ | exact below_alloc (below_drew1 (Below.refl _ _)) _⟩
 by_cases c5 : a0 = 5
 ·subst c5
  have e1 : wire_fields.o 5 = [2, 3] := rfl
  rw [e1, show decide ((1 : Int) ≤ 5 ∧ (5 : Int) ≤ 11) = true from rfl]
  clear e1
  go_enter Try.func38, Try.ntmps38
  go_wp2_with (fail)
  go_still_tail 6, (by kernel_rfl)
  go_wp2_with (fail)
  go_ret2
  exact ⟨_, rfl, by first | exact wire_fields.new g [2, 3] w _ (Nat.le_refl _) (by decide) | exact wire_fields.new g [2, 3] (w.drewN _) _ (Nat.le_refl _) (by decide) | exact wire_fields.new g [2, 3] w.drew _ (Nat.le_refl _) (by decide), by first | exact below_alloc (Below.refl _ _) _ | exact below_alloc (pw_below_drewN (Below.refl _ _) _) _ | exact below_alloc (below_drew1 (Below.refl _ _)) _⟩
 by_cases c6 : a0 = 6
 ·subst c6
  have e1 : wire_fields.o 6 = [5, 9, 10] := rfl
  rw [e1, show decide ((1 : Int) ≤ 6 ∧ (6 : Int) ≤ 11) = true from rfl]
  clear e1
  go_enter Try.func38, Try.ntmps38
  go_wp2_with (fail)
  go_still_tail 9, (by kernel_rfl)
  go_wp2_with (fail)
  go_ret2
  exact ⟨_, rfl, by first | exact wire_fields.new g [5, 9, 10] w _ (Nat.le_refl _) (by decide) | exact wire_fields.new g [5, 9, 10] (w.drewN _) _ (Nat.le_refl _) (by decide) | exact wire_fields.new g [5, 9, 10] w.drew _ (Nat.le_refl _) (by decide), by first | exact below_alloc (Below.refl _ _) _ | exact below_alloc (pw_below_drewN (Below.refl _ _) _) _ | exact below_alloc (below_drew1 (Below.refl _ _)) _⟩
 by_cases c8 : a0 = 8
 ·subst c8
  have e1 : wire_fields.o 8 = [11] := rfl
  rw [e1, show decide ((1 : Int) ≤ 8 ∧ (8 : Int) ≤ 11) = true from rfl]
  clear e1
  go_enter Try.func38, Try.ntmps38
  go_wp2_with (fail)
  go_ret2
  exact ⟨_, rfl, by first | exact wire_fields.new g [11] w _ (Nat.le_refl _) (by decide) | exact wire_fields.new g [11] (w.drewN _) _ (Nat.le_refl _) (by decide) | exact wire_fields.new g [11] w.drew _ (Nat.le_refl _) (by decide), by first | exact below_alloc (Below.refl _ _) _ | exact below_alloc (pw_below_drewN (Below.refl _ _) _) _ | exact below_alloc (below_drew1 (Below.refl _ _)) _⟩
 by_cases c9 : a0 = 9
 ·subst c9
  have e1 : wire_fields.o 9 = [6] := rfl
  rw [e1, show decide ((1 : Int) ≤ 9 ∧ (9 : Int) ≤ 11) = true from rfl]
  clear e1
  go_enter Try.func38, Try.ntmps38
  go_wp2_with (fail)
  go_ret2
  exact ⟨_, rfl, by first | exact wire_fields.new g [6] w _ (Nat.le_refl _) (by decide) | exact wire_fields.new g [6] (w.drewN _) _ (Nat.le_refl _) (by decide) | exact wire_fields.new g [6] w.drew _ (Nat.le_refl _) (by decide), by first | exact below_alloc (Below.refl _ _) _ | exact below_alloc (pw_below_drewN (Below.refl _ _) _) _ | exact below_alloc (below_drew1 (Below.refl _ _)) _⟩
 by_cases c11 : a0 = 11
 ·subst c11
  have e1 : wire_fields.o 11 = [6] := rfl
  rw [e1, show decide ((1 : Int) ≤ 11 ∧ (11 : Int) ≤ 11) = true from rfl]
  clear e1
  go_enter Try.func38, Try.ntmps38
  go_wp2_with (fail)
  go_ret2
  exact ⟨_, rfl, by first | exact wire_fields.new g [6] w _ (Nat.le_refl _) (by decide) | exact wire_fields.new g [6] (w.drewN _) _ (Nat.le_refl _) (by decide) | exact wire_fields.new g [6] w.drew _ (Nat.le_refl _) (by decide), by first | exact below_alloc (Below.refl _ _) _ | exact below_alloc (pw_below_drewN (Below.refl _ _) _) _ | exact below_alloc (below_drew1 (Below.refl _ _)) _⟩
 by_cases c10 : a0 = 10
 ·subst c10
  have e1 : wire_fields.o 10 = [6, 7] := rfl
  rw [e1, show decide ((1 : Int) ≤ 10 ∧ (10 : Int) ≤ 11) = true from rfl]
  clear e1
  go_enter Try.func38, Try.ntmps38
  go_wp2_with (fail)
  go_still_tail 6, (by kernel_rfl)
  go_wp2_with (fail)
  go_ret2
  exact ⟨_, rfl, by first | exact wire_fields.new g [6, 7] w _ (Nat.le_refl _) (by decide) | exact wire_fields.new g [6, 7] (w.drewN _) _ (Nat.le_refl _) (by decide) | exact wire_fields.new g [6, 7] w.drew _ (Nat.le_refl _) (by decide), by first | exact below_alloc (Below.refl _ _) _ | exact below_alloc (pw_below_drewN (Below.refl _ _) _) _ | exact below_alloc (below_drew1 (Below.refl _ _)) _⟩
 have e1 : wire_fields.o a0 = [] := by
  unfold wire_fields.o
  rw [if_neg c1, if_neg c2, if_neg (fun h => h.elim c3 c7), if_neg c4, if_neg c5, if_neg c6, if_neg c8, if_neg (fun h => h.elim c9 c11), if_neg c10]
 rw [e1, show decide (1 ≤ a0 ∧ a0 ≤ 11) = false from decide_eq_false (by omega)]
 clear e1
 replace c1 : (a0 == 1) = false := beq_eq_false_iff_ne.mpr c1
 replace c2 : (a0 == 2) = false := beq_eq_false_iff_ne.mpr c2
 replace c3 : (a0 == 3) = false := beq_eq_false_iff_ne.mpr c3
 replace c4 : (a0 == 4) = false := beq_eq_false_iff_ne.mpr c4
 replace c5 : (a0 == 5) = false := beq_eq_false_iff_ne.mpr c5
 replace c6 : (a0 == 6) = false := beq_eq_false_iff_ne.mpr c6
 replace c7 : (a0 == 7) = false := beq_eq_false_iff_ne.mpr c7
 replace c8 : (a0 == 8) = false := beq_eq_false_iff_ne.mpr c8
 replace c9 : (a0 == 9) = false := beq_eq_false_iff_ne.mpr c9
 replace c10 : (a0 == 10) = false := beq_eq_false_iff_ne.mpr c10
 replace c11 : (a0 == 11) = false := beq_eq_false_iff_ne.mpr c11
 go_enter Try.func38, Try.ntmps38
 go_wp2_with (fail)
 go_ret2
 exact ⟨_, rfl, Kd.R_nil _ _ _ _ _, Below.refl _ _⟩

/-! ### wire_flagged: function 39 -/
def wire_flagged.f (a0 : Int) : Option (Bool) := if a0 = 5 then (some true) else (some (a0 == 6))
set_option maxHeartbeats 8000000 in
set_option maxRecDepth 100000 in
theorem wire_flagged.calls (a0 : Int) (r : Bool) (w : World) (h : wire_flagged.f a0 = some r) :
    Calls Try.prog 39 #[.int .i64 a0] w fun e w' => e = .returned (.bool r) ∧ Drawn0 w w' := by
 have H : (if a0 = 5 then (some true) else (some (a0 == 6))) = some r := h
 clear h
 by_cases c2 : a0 = 5
 ·rw [if_pos c2] at H
  have c2b0 : (a0 == 5) = true := beq_iff_eq.mpr c2
  have c2b1 : (a0 != 5) = false := bne_eq_false_iff_eq.mpr c2
  clear c2
  obtain rfl := Option.some.inj H
  go_enter Try.func39, Try.ntmps39
  go_wp2
  go_ret
  exact ⟨by first | rfl | (simp; done) | (simp [*]; done), by repeat (first | exact Drawn0.refl _ | apply Drawn0.step)⟩
 rw [if_neg c2] at H
 have c2b0 : (a0 == 5) = false := beq_eq_false_iff_ne.mpr c2
 have c2b1 : (a0 != 5) = true := bne_iff_ne.mpr c2
 obtain rfl := Option.some.inj H
 go_enter Try.func39, Try.ntmps39
 go_wp2
 go_ret
 exact ⟨by first | rfl | (simp; done) | (simp [*]; done), by repeat (first | exact Drawn0.refl _ | apply Drawn0.step)⟩

end Go.Proofs.Ytikbpjdgihheiaa.P
