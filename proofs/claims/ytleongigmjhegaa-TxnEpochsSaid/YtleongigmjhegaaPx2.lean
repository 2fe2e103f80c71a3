-- Written by wip/mk.py of this repo: the kit's print program, with contracts of our own among its functions.
import Derived.Test.YtleongigmjhegaaPx0
namespace Go.Proofs.Ytleongigmjhegaa.P
open Go.RowKit Go.Proofs.YtleongigmjhegaaW.PrintWords Go.Proofs.YtleongigmjhegaaW.PrintLast Go.Proofs.YtleongigmjhegaaW.PrintMore
attribute [local go_sem] max2_int min2_int max_two min_two max_three min_three max_four min_four   -- for this text's walks alone
set_option linter.unusedVariables false
set_option linter.unusedSimpArgs false

/-! ### txn_producer: function 36 -/
def txn_producer.f (a0 : Int) : Option (Bool) := if a0 ≥ 1 then (some (decide (a0 ≤ 8))) else (some false)
set_option maxHeartbeats 8000000 in
set_option maxRecDepth 100000 in
theorem txn_producer.calls (a0 : Int) (r : Bool) (w : World) (h : txn_producer.f a0 = some r) :
    Calls Try.prog 36 #[.int .i64 a0] w fun e w' => e = .returned (.bool r) ∧ Drawn0 w w' := by
  have H : (if a0 ≥ 1 then (some (decide (a0 ≤ 8))) else (some false)) = some r := h
  clear h
  by_cases c2 : a0 ≥ 1
  · rw [if_pos c2] at H
    have c2b0 : decide (1 ≤ a0) = true := decide_eq_true c2
    clear c2
    obtain rfl := Option.some.inj H
    go_enter Try.func36, Try.ntmps36
    go_wp2
    go_ret
    exact ⟨by first | rfl | (simp; done) | (simp [*]; done), by repeat (first | exact Drawn0.refl _ | apply Drawn0.step)⟩
  · rw [if_neg c2] at H
    have c2b0 : decide (1 ≤ a0) = false := decide_eq_false c2
    clear c2
    obtain rfl := Option.some.inj H
    go_enter Try.func36, Try.ntmps36
    go_wp2
    go_ret
    exact ⟨by first | rfl | (simp; done) | (simp [*]; done), by repeat (first | exact Drawn0.refl _ | apply Drawn0.step)⟩

/-! ### txn_Check: function 23 -/
def txn_Check.f (a0_0 a0_1 a0_2 : Int) : Option Int :=
  some (if (1 ≤ a0_1 ∧ a0_1 ≤ 8) ∧ 1 ≤ a0_0 ∧ a0_0 ≤ 5 ∧ (a0_0 = 2 → 1 ≤ a0_2 ∧ a0_2 < 8192) ∧ (a0_0 ≠ 2 → a0_2 = 0) then 0 else 1)
set_option maxHeartbeats 8000000 in
set_option maxRecDepth 100000 in
theorem txn_Check.calls (a0_0 : Int) (a0_1 : Int) (a0_2 : Int) (r : Int) (w : World) (h : txn_Check.f a0_0 a0_1 a0_2 = some r) :
    Calls Try.prog 23 #[.agg #[.int .i64 a0_0, .int .i64 a0_1, .int .i64 a0_2]] w fun e w' => e = .returned (.int .i64 r) ∧ Below w.heap.size w w' := by
  have HB0 := Aside0.mk (Below.refl w.heap.size w)
  unfold txn_Check.f at h
  injection h with h
  have H := Aside0.mk h
  clear h
  by_cases hp : 1 ≤ a0_1 ∧ a0_1 ≤ 8
  case neg =>
    have HP : Aside0 (txn_producer.f a0_1 = some false) := ⟨by
      unfold txn_producer.f
      by_cases h1 : a0_1 ≥ 1
      · rw [if_pos h1, decide_eq_false (by omega)]
      · rw [if_neg h1]⟩
    have HE : Aside0 ((1 : Int) = r) := ⟨by rw [← H.out, if_neg (fun h => hp h.1)]⟩
    clear hp H
    by_cases h2 : a0_0 = 2
    case pos => 
      have h2b : (a0_0 == 2) = true := beq_iff_eq.2 h2
      clear h2
      have huNote := Try.underlying24
      go_enter Try.func23, Try.ntmps23
      go_wp2_with (first | ((with_reducible refine gate_dst (N := 1) rfl ?_); refine box_event ?hg (N := 1) ?hd (cs := #[.int .i64 a0_0, .int .i64 a0_1, .int .i64 a0_2]) (t := 24) ?hr ?_; (case hd => rfl); (case hg => rfl); (case hr => first | (go_simp; done) | (go_simp; rfl)); intro gb hg w1 hbox hb; have HB := Aside0.mk (below_step HB0.out hb); have BK := Aside0.mk hbox; clear hb hbox hg; have hc0 : w1.cell? ⟨gb, 0, none⟩ = some (.int .i64 a0_0) := (blk_cell BK.out 0).trans rfl; have hc1 : w1.cell? ⟨gb, 1, none⟩ = some (.int .i64 a0_1) := (blk_cell BK.out 1).trans rfl; have hc2 : w1.cell? ⟨gb, 2, none⟩ = some (.int .i64 a0_2) := (blk_cell BK.out 2).trans rfl) | (go_at_call 36; fail))
      refine (txn_producer.calls a0_1 _ _ HP.out).mono ?_
      rintro e w2 ⟨rfl, hd⟩
      have HBn : Aside0 (Below w.heap.size w w2) := ⟨below_step HB.out hd.below⟩
      have BKn : Aside0 (w2.heap[gb]? = some (.cells #[.int .i64 a0_0, .int .i64 a0_1, .int .i64 a0_2] 24 (0, 0))) := ⟨blk_below BK.out hd.below⟩
      clear hd hc0 hc1 hc2 HB BK
      have hc0 : w2.cell? ⟨gb, 0, none⟩ = some (.int .i64 a0_0) := (blk_cell BKn.out 0).trans rfl
      have hc1 : w2.cell? ⟨gb, 1, none⟩ = some (.int .i64 a0_1) := (blk_cell BKn.out 1).trans rfl
      have hc2 : w2.cell? ⟨gb, 2, none⟩ = some (.int .i64 a0_2) := (blk_cell BKn.out 2).trans rfl
      go_wp2
      go_ret
      refine ⟨?_, HBn.out⟩
      rw [← HE.out]
      rfl
    case neg =>
      have h2b : (a0_0 == 2) = false := beq_eq_false_iff_ne.2 h2
      clear h2
      have huNote := Try.underlying24
      go_enter Try.func23, Try.ntmps23
      go_wp2_with (first | ((with_reducible refine gate_dst (N := 1) rfl ?_); refine box_event ?hg (N := 1) ?hd (cs := #[.int .i64 a0_0, .int .i64 a0_1, .int .i64 a0_2]) (t := 24) ?hr ?_; (case hd => rfl); (case hg => rfl); (case hr => first | (go_simp; done) | (go_simp; rfl)); intro gb hg w1 hbox hb; have HB := Aside0.mk (below_step HB0.out hb); have BK := Aside0.mk hbox; clear hb hbox hg; have hc0 : w1.cell? ⟨gb, 0, none⟩ = some (.int .i64 a0_0) := (blk_cell BK.out 0).trans rfl; have hc1 : w1.cell? ⟨gb, 1, none⟩ = some (.int .i64 a0_1) := (blk_cell BK.out 1).trans rfl; have hc2 : w1.cell? ⟨gb, 2, none⟩ = some (.int .i64 a0_2) := (blk_cell BK.out 2).trans rfl) | (go_at_call 36; fail))
      refine (txn_producer.calls a0_1 _ _ HP.out).mono ?_
      rintro e w2 ⟨rfl, hd⟩
      have HBn : Aside0 (Below w.heap.size w w2) := ⟨below_step HB.out hd.below⟩
      have BKn : Aside0 (w2.heap[gb]? = some (.cells #[.int .i64 a0_0, .int .i64 a0_1, .int .i64 a0_2] 24 (0, 0))) := ⟨blk_below BK.out hd.below⟩
      clear hd hc0 hc1 hc2 HB BK
      have hc0 : w2.cell? ⟨gb, 0, none⟩ = some (.int .i64 a0_0) := (blk_cell BKn.out 0).trans rfl
      have hc1 : w2.cell? ⟨gb, 1, none⟩ = some (.int .i64 a0_1) := (blk_cell BKn.out 1).trans rfl
      have hc2 : w2.cell? ⟨gb, 2, none⟩ = some (.int .i64 a0_2) := (blk_cell BKn.out 2).trans rfl
      go_wp2
      go_ret
      refine ⟨?_, HBn.out⟩
      rw [← HE.out]
      rfl
  have HP : Aside0 (txn_producer.f a0_1 = some true) := ⟨by
    unfold txn_producer.f
    rw [if_pos hp.1, decide_eq_true hp.2]⟩
  have HPP := Aside0.mk hp
  clear hp
  by_cases h3 : a0_0 < 1
  case pos =>
    have HE : Aside0 ((1 : Int) = r) := ⟨by rw [← H.out, if_neg (fun h => by omega)]⟩
    have h3b : decide (a0_0 < 1) = true := decide_eq_true h3
    have h2b : (a0_0 == 2) = false := beq_eq_false_iff_ne.2 (by omega)
    clear H
    have huNote := Try.underlying24
    go_enter Try.func23, Try.ntmps23
    go_wp2_with (first | ((with_reducible refine gate_dst (N := 1) rfl ?_); refine box_event ?hg (N := 1) ?hd (cs := #[.int .i64 a0_0, .int .i64 a0_1, .int .i64 a0_2]) (t := 24) ?hr ?_; (case hd => rfl); (case hg => rfl); (case hr => first | (go_simp; done) | (go_simp; rfl)); intro gb hg w1 hbox hb; have HB := Aside0.mk (below_step HB0.out hb); have BK := Aside0.mk hbox; clear hb hbox hg; have hc0 : w1.cell? ⟨gb, 0, none⟩ = some (.int .i64 a0_0) := (blk_cell BK.out 0).trans rfl; have hc1 : w1.cell? ⟨gb, 1, none⟩ = some (.int .i64 a0_1) := (blk_cell BK.out 1).trans rfl; have hc2 : w1.cell? ⟨gb, 2, none⟩ = some (.int .i64 a0_2) := (blk_cell BK.out 2).trans rfl) | (go_at_call 36; fail))
    refine (txn_producer.calls a0_1 _ _ HP.out).mono ?_
    rintro e w2 ⟨rfl, hd⟩
    have HBn : Aside0 (Below w.heap.size w w2) := ⟨below_step HB.out hd.below⟩
    have BKn : Aside0 (w2.heap[gb]? = some (.cells #[.int .i64 a0_0, .int .i64 a0_1, .int .i64 a0_2] 24 (0, 0))) := ⟨blk_below BK.out hd.below⟩
    clear hd hc0 hc1 hc2 HB BK
    have hc0 : w2.cell? ⟨gb, 0, none⟩ = some (.int .i64 a0_0) := (blk_cell BKn.out 0).trans rfl
    have hc1 : w2.cell? ⟨gb, 1, none⟩ = some (.int .i64 a0_1) := (blk_cell BKn.out 1).trans rfl
    have hc2 : w2.cell? ⟨gb, 2, none⟩ = some (.int .i64 a0_2) := (blk_cell BKn.out 2).trans rfl
    go_wp2
    go_ret
    refine ⟨?_, HBn.out⟩
    rw [← HE.out]
    rfl
  by_cases h4 : 5 < a0_0
  case pos =>
    have HE : Aside0 ((1 : Int) = r) := ⟨by rw [← H.out, if_neg (fun h => by omega)]⟩
    have h3b : decide (a0_0 < 1) = false := decide_eq_false h3
    have h4b : decide (5 < a0_0) = true := decide_eq_true h4
    have h2b : (a0_0 == 2) = false := beq_eq_false_iff_ne.2 (by omega)
    clear H h3
    have huNote := Try.underlying24
    go_enter Try.func23, Try.ntmps23
    go_wp2_with (first | ((with_reducible refine gate_dst (N := 1) rfl ?_); refine box_event ?hg (N := 1) ?hd (cs := #[.int .i64 a0_0, .int .i64 a0_1, .int .i64 a0_2]) (t := 24) ?hr ?_; (case hd => rfl); (case hg => rfl); (case hr => first | (go_simp; done) | (go_simp; rfl)); intro gb hg w1 hbox hb; have HB := Aside0.mk (below_step HB0.out hb); have BK := Aside0.mk hbox; clear hb hbox hg; have hc0 : w1.cell? ⟨gb, 0, none⟩ = some (.int .i64 a0_0) := (blk_cell BK.out 0).trans rfl; have hc1 : w1.cell? ⟨gb, 1, none⟩ = some (.int .i64 a0_1) := (blk_cell BK.out 1).trans rfl; have hc2 : w1.cell? ⟨gb, 2, none⟩ = some (.int .i64 a0_2) := (blk_cell BK.out 2).trans rfl) | (go_at_call 36; fail))
    refine (txn_producer.calls a0_1 _ _ HP.out).mono ?_
    rintro e w2 ⟨rfl, hd⟩
    have HBn : Aside0 (Below w.heap.size w w2) := ⟨below_step HB.out hd.below⟩
    have BKn : Aside0 (w2.heap[gb]? = some (.cells #[.int .i64 a0_0, .int .i64 a0_1, .int .i64 a0_2] 24 (0, 0))) := ⟨blk_below BK.out hd.below⟩
    clear hd hc0 hc1 hc2 HB BK
    have hc0 : w2.cell? ⟨gb, 0, none⟩ = some (.int .i64 a0_0) := (blk_cell BKn.out 0).trans rfl
    have hc1 : w2.cell? ⟨gb, 1, none⟩ = some (.int .i64 a0_1) := (blk_cell BKn.out 1).trans rfl
    have hc2 : w2.cell? ⟨gb, 2, none⟩ = some (.int .i64 a0_2) := (blk_cell BKn.out 2).trans rfl
    go_wp2
    go_ret
    refine ⟨?_, HBn.out⟩
    rw [← HE.out]
    rfl
  have h3b : decide (a0_0 < 1) = false := decide_eq_false h3
  have h4b : decide (5 < a0_0) = false := decide_eq_false h4
  by_cases h2 : a0_0 = 2
  case pos =>
    have h2b : (a0_0 == 2) = true := beq_iff_eq.2 h2
    by_cases h5 : a0_2 < 1
    case pos =>
      have HE : Aside0 ((1 : Int) = r) := ⟨by rw [← H.out, if_neg (fun h => by have := h.2.2.2.1 h2; omega)]⟩
      have h5b : decide (a0_2 < 1) = true := decide_eq_true h5
      clear H h2 h3 h4
      have huNote := Try.underlying24
      go_enter Try.func23, Try.ntmps23
      go_wp2_with (first | ((with_reducible refine gate_dst (N := 1) rfl ?_); refine box_event ?hg (N := 1) ?hd (cs := #[.int .i64 a0_0, .int .i64 a0_1, .int .i64 a0_2]) (t := 24) ?hr ?_; (case hd => rfl); (case hg => rfl); (case hr => first | (go_simp; done) | (go_simp; rfl)); intro gb hg w1 hbox hb; have HB := Aside0.mk (below_step HB0.out hb); have BK := Aside0.mk hbox; clear hb hbox hg; have hc0 : w1.cell? ⟨gb, 0, none⟩ = some (.int .i64 a0_0) := (blk_cell BK.out 0).trans rfl; have hc1 : w1.cell? ⟨gb, 1, none⟩ = some (.int .i64 a0_1) := (blk_cell BK.out 1).trans rfl; have hc2 : w1.cell? ⟨gb, 2, none⟩ = some (.int .i64 a0_2) := (blk_cell BK.out 2).trans rfl) | (go_at_call 36; fail))
      refine (txn_producer.calls a0_1 _ _ HP.out).mono ?_
      rintro e w2 ⟨rfl, hd⟩
      have HBn : Aside0 (Below w.heap.size w w2) := ⟨below_step HB.out hd.below⟩
      have BKn : Aside0 (w2.heap[gb]? = some (.cells #[.int .i64 a0_0, .int .i64 a0_1, .int .i64 a0_2] 24 (0, 0))) := ⟨blk_below BK.out hd.below⟩
      clear hd hc0 hc1 hc2 HB BK
      have hc0 : w2.cell? ⟨gb, 0, none⟩ = some (.int .i64 a0_0) := (blk_cell BKn.out 0).trans rfl
      have hc1 : w2.cell? ⟨gb, 1, none⟩ = some (.int .i64 a0_1) := (blk_cell BKn.out 1).trans rfl
      have hc2 : w2.cell? ⟨gb, 2, none⟩ = some (.int .i64 a0_2) := (blk_cell BKn.out 2).trans rfl
      go_wp2
      go_ret
      refine ⟨?_, HBn.out⟩
      rw [← HE.out]
      rfl
    have h5b : decide (a0_2 < 1) = false := decide_eq_false h5
    by_cases h6 : 8192 ≤ a0_2
    case pos =>
      have HE : Aside0 ((1 : Int) = r) := ⟨by rw [← H.out, if_neg (fun h => by have := h.2.2.2.1 h2; omega)]⟩
      have h6b : decide (8192 ≤ a0_2) = true := decide_eq_true h6
      clear H h2 h3 h4 h5
      have huNote := Try.underlying24
      go_enter Try.func23, Try.ntmps23
      go_wp2_with (first | ((with_reducible refine gate_dst (N := 1) rfl ?_); refine box_event ?hg (N := 1) ?hd (cs := #[.int .i64 a0_0, .int .i64 a0_1, .int .i64 a0_2]) (t := 24) ?hr ?_; (case hd => rfl); (case hg => rfl); (case hr => first | (go_simp; done) | (go_simp; rfl)); intro gb hg w1 hbox hb; have HB := Aside0.mk (below_step HB0.out hb); have BK := Aside0.mk hbox; clear hb hbox hg; have hc0 : w1.cell? ⟨gb, 0, none⟩ = some (.int .i64 a0_0) := (blk_cell BK.out 0).trans rfl; have hc1 : w1.cell? ⟨gb, 1, none⟩ = some (.int .i64 a0_1) := (blk_cell BK.out 1).trans rfl; have hc2 : w1.cell? ⟨gb, 2, none⟩ = some (.int .i64 a0_2) := (blk_cell BK.out 2).trans rfl) | (go_at_call 36; fail))
      refine (txn_producer.calls a0_1 _ _ HP.out).mono ?_
      rintro e w2 ⟨rfl, hd⟩
      have HBn : Aside0 (Below w.heap.size w w2) := ⟨below_step HB.out hd.below⟩
      have BKn : Aside0 (w2.heap[gb]? = some (.cells #[.int .i64 a0_0, .int .i64 a0_1, .int .i64 a0_2] 24 (0, 0))) := ⟨blk_below BK.out hd.below⟩
      clear hd hc0 hc1 hc2 HB BK
      have hc0 : w2.cell? ⟨gb, 0, none⟩ = some (.int .i64 a0_0) := (blk_cell BKn.out 0).trans rfl
      have hc1 : w2.cell? ⟨gb, 1, none⟩ = some (.int .i64 a0_1) := (blk_cell BKn.out 1).trans rfl
      have hc2 : w2.cell? ⟨gb, 2, none⟩ = some (.int .i64 a0_2) := (blk_cell BKn.out 2).trans rfl
      go_wp2
      go_ret
      refine ⟨?_, HBn.out⟩
      rw [← HE.out]
      rfl
    case neg =>
      have HE : Aside0 ((0 : Int) = r) := ⟨by rw [← H.out, if_pos ⟨HPP.out, by omega, by omega, fun _ => by omega, fun h => (h h2).elim⟩]⟩
      have h6b : decide (8192 ≤ a0_2) = false := decide_eq_false h6
      clear H h2 h3 h4 h5 h6
      have huNote := Try.underlying24
      go_enter Try.func23, Try.ntmps23
      go_wp2_with (first | ((with_reducible refine gate_dst (N := 1) rfl ?_); refine box_event ?hg (N := 1) ?hd (cs := #[.int .i64 a0_0, .int .i64 a0_1, .int .i64 a0_2]) (t := 24) ?hr ?_; (case hd => rfl); (case hg => rfl); (case hr => first | (go_simp; done) | (go_simp; rfl)); intro gb hg w1 hbox hb; have HB := Aside0.mk (below_step HB0.out hb); have BK := Aside0.mk hbox; clear hb hbox hg; have hc0 : w1.cell? ⟨gb, 0, none⟩ = some (.int .i64 a0_0) := (blk_cell BK.out 0).trans rfl; have hc1 : w1.cell? ⟨gb, 1, none⟩ = some (.int .i64 a0_1) := (blk_cell BK.out 1).trans rfl; have hc2 : w1.cell? ⟨gb, 2, none⟩ = some (.int .i64 a0_2) := (blk_cell BK.out 2).trans rfl) | (go_at_call 36; fail))
      refine (txn_producer.calls a0_1 _ _ HP.out).mono ?_
      rintro e w2 ⟨rfl, hd⟩
      have HBn : Aside0 (Below w.heap.size w w2) := ⟨below_step HB.out hd.below⟩
      have BKn : Aside0 (w2.heap[gb]? = some (.cells #[.int .i64 a0_0, .int .i64 a0_1, .int .i64 a0_2] 24 (0, 0))) := ⟨blk_below BK.out hd.below⟩
      clear hd hc0 hc1 hc2 HB BK
      have hc0 : w2.cell? ⟨gb, 0, none⟩ = some (.int .i64 a0_0) := (blk_cell BKn.out 0).trans rfl
      have hc1 : w2.cell? ⟨gb, 1, none⟩ = some (.int .i64 a0_1) := (blk_cell BKn.out 1).trans rfl
      have hc2 : w2.cell? ⟨gb, 2, none⟩ = some (.int .i64 a0_2) := (blk_cell BKn.out 2).trans rfl
      go_wp2
      go_ret
      refine ⟨?_, HBn.out⟩
      rw [← HE.out]
      rfl
  case neg =>
    have h2b : (a0_0 == 2) = false := beq_eq_false_iff_ne.2 h2
    by_cases h5 : a0_2 = 0
    case pos =>
      have HE : Aside0 ((0 : Int) = r) := ⟨by rw [← H.out, if_pos ⟨HPP.out, by omega, by omega, fun h => (h2 h).elim, fun h => h5⟩]⟩
      have h5b : (a0_2 != 0) = false := bne_eq_false_iff_eq.2 h5
      clear H h2 h3 h4 h5
      have huNote := Try.underlying24
      go_enter Try.func23, Try.ntmps23
      go_wp2_with (first | ((with_reducible refine gate_dst (N := 1) rfl ?_); refine box_event ?hg (N := 1) ?hd (cs := #[.int .i64 a0_0, .int .i64 a0_1, .int .i64 a0_2]) (t := 24) ?hr ?_; (case hd => rfl); (case hg => rfl); (case hr => first | (go_simp; done) | (go_simp; rfl)); intro gb hg w1 hbox hb; have HB := Aside0.mk (below_step HB0.out hb); have BK := Aside0.mk hbox; clear hb hbox hg; have hc0 : w1.cell? ⟨gb, 0, none⟩ = some (.int .i64 a0_0) := (blk_cell BK.out 0).trans rfl; have hc1 : w1.cell? ⟨gb, 1, none⟩ = some (.int .i64 a0_1) := (blk_cell BK.out 1).trans rfl; have hc2 : w1.cell? ⟨gb, 2, none⟩ = some (.int .i64 a0_2) := (blk_cell BK.out 2).trans rfl) | (go_at_call 36; fail))
      refine (txn_producer.calls a0_1 _ _ HP.out).mono ?_
      rintro e w2 ⟨rfl, hd⟩
      have HBn : Aside0 (Below w.heap.size w w2) := ⟨below_step HB.out hd.below⟩
      have BKn : Aside0 (w2.heap[gb]? = some (.cells #[.int .i64 a0_0, .int .i64 a0_1, .int .i64 a0_2] 24 (0, 0))) := ⟨blk_below BK.out hd.below⟩
      clear hd hc0 hc1 hc2 HB BK
      have hc0 : w2.cell? ⟨gb, 0, none⟩ = some (.int .i64 a0_0) := (blk_cell BKn.out 0).trans rfl
      have hc1 : w2.cell? ⟨gb, 1, none⟩ = some (.int .i64 a0_1) := (blk_cell BKn.out 1).trans rfl
      have hc2 : w2.cell? ⟨gb, 2, none⟩ = some (.int .i64 a0_2) := (blk_cell BKn.out 2).trans rfl
      go_wp2
      go_ret
      refine ⟨?_, HBn.out⟩
      rw [← HE.out]
      rfl
    case neg =>
      have HE : Aside0 ((1 : Int) = r) := ⟨by rw [← H.out, if_neg (fun h => h5 (h.2.2.2.2 h2))]⟩
      have h5b : (a0_2 != 0) = true := bne_iff_ne.2 h5
      clear H h2 h3 h4 h5
      have huNote := Try.underlying24
      go_enter Try.func23, Try.ntmps23
      go_wp2_with (first | ((with_reducible refine gate_dst (N := 1) rfl ?_); refine box_event ?hg (N := 1) ?hd (cs := #[.int .i64 a0_0, .int .i64 a0_1, .int .i64 a0_2]) (t := 24) ?hr ?_; (case hd => rfl); (case hg => rfl); (case hr => first | (go_simp; done) | (go_simp; rfl)); intro gb hg w1 hbox hb; have HB := Aside0.mk (below_step HB0.out hb); have BK := Aside0.mk hbox; clear hb hbox hg; have hc0 : w1.cell? ⟨gb, 0, none⟩ = some (.int .i64 a0_0) := (blk_cell BK.out 0).trans rfl; have hc1 : w1.cell? ⟨gb, 1, none⟩ = some (.int .i64 a0_1) := (blk_cell BK.out 1).trans rfl; have hc2 : w1.cell? ⟨gb, 2, none⟩ = some (.int .i64 a0_2) := (blk_cell BK.out 2).trans rfl) | (go_at_call 36; fail))
      refine (txn_producer.calls a0_1 _ _ HP.out).mono ?_
      rintro e w2 ⟨rfl, hd⟩
      have HBn : Aside0 (Below w.heap.size w w2) := ⟨below_step HB.out hd.below⟩
      have BKn : Aside0 (w2.heap[gb]? = some (.cells #[.int .i64 a0_0, .int .i64 a0_1, .int .i64 a0_2] 24 (0, 0))) := ⟨blk_below BK.out hd.below⟩
      clear hd hc0 hc1 hc2 HB BK
      have hc0 : w2.cell? ⟨gb, 0, none⟩ = some (.int .i64 a0_0) := (blk_cell BKn.out 0).trans rfl
      have hc1 : w2.cell? ⟨gb, 1, none⟩ = some (.int .i64 a0_1) := (blk_cell BKn.out 1).trans rfl
      have hc2 : w2.cell? ⟨gb, 2, none⟩ = some (.int .i64 a0_2) := (blk_cell BKn.out 2).trans rfl
      go_wp2
      go_ret
      refine ⟨?_, HBn.out⟩
      rw [← HE.out]
      rfl

/-! ### txn_right: function 24 -/
def txn_right.G (l : List S27) (j : Nat) : Prop := (1 ≤ (rd_T27 l (j : Int)).f0 ∧ (rd_T27 l (j : Int)).f0 ≤ 8 ∧ 1 ≤ (rd_T27 l (j : Int)).f1 ∧ (rd_T27 l (j : Int)).f1 ≤ 1099511627776) ∧ (0 < j → (rd_T27 l ((j - 1 : Nat) : Int)).f0 < (rd_T27 l (j : Int)).f0)
def txn_right.B (l : List S27) : Bool := l.all (fun x => decide (1 ≤ x.f0 ∧ x.f0 ≤ 8 ∧ 1 ≤ x.f1 ∧ x.f1 ≤ 1099511627776)) && decide (l.Pairwise fun a b => a.f0 < b.f0)
def txn_right.f (l : List S27) : Option Bool := some (txn_right.B l)
theorem txn_right.rd_at (s : List S27) (j : Nat) (h : j < s.length) : rd_T27 s (j : Int) = s[j] := by
  simp [rd_T27, List.getD_eq_getElem?_getD, List.getElem?_eq_getElem h]
theorem txn_right.pair_of {l : List S27} (h : ∀ j, (hj : j + 1 < l.length) → (l[j]'(by omega)).f0 < l[j + 1].f0) : l.Pairwise fun a b => a.f0 < b.f0 := by
  rw [List.pairwise_iff_getElem]
  intro i j hi hj hij
  obtain ⟨d, rfl⟩ : ∃ d, j = i + 1 + d := ⟨j - (i + 1), by omega⟩
  clear hij
  induction d with
  | zero => exact h i hj
  | succ d ih => exact Int.lt_trans (ih (by omega)) (h (i + 1 + d) hj)
theorem txn_right.B_iff {l : List S27} : txn_right.B l = true ↔ ∀ j, j < l.length → txn_right.G l j := by
  unfold txn_right.B
  simp only [Bool.and_eq_true, decide_eq_true_eq, List.all_eq_true]
  constructor
  · rintro ⟨h1, h2⟩ j hj
    refine ⟨by rw [txn_right.rd_at l j hj]; exact h1 _ (List.getElem_mem hj), fun h0 => ?_⟩
    rw [txn_right.rd_at l j hj, txn_right.rd_at l (j - 1) (by omega)]
    exact List.pairwise_iff_getElem.1 h2 (j - 1) j (by omega) hj (by omega)
  · intro h
    refine ⟨fun x hx => ?_, txn_right.pair_of fun j hj => ?_⟩
    · obtain ⟨j, hj, rfl⟩ := List.getElem_of_mem hx
      have := (h j hj).1
      rwa [txn_right.rd_at l j hj] at this
    · have := (h (j + 1) hj).2 (by omega)
      rwa [txn_right.rd_at l (j + 1) hj, show j + 1 - 1 = j by omega, txn_right.rd_at l j (by omega)] at this
set_option maxHeartbeats 8000000 in
set_option maxRecDepth 100000 in
theorem txn_right.calls (A0 : Option Addr) (c0 : Nat) (l0 : List S27) (r : Bool) (w : World) (hr0 : Kd.C k27 w A0 l0.length l0) (hc0 : l0.length ≤ c0) (h : txn_right.f l0 = some r) :
    Calls Try.prog 24 #[.slice A0 l0.length c0] w fun e w' => e = .returned (.bool r) ∧ Below w.heap.size w w' := by
  have HC := Aside0.mk hr0
  have hlb := hr0.2.1
  clear hr0
  unfold txn_right.f at h
  injection h with h
  have H := Aside0.mk h
  clear h
  go_enter Try.func24, Try.ntmps24
  go_wp2
  go_loopw [7] (fun v7 wr => ∃ j : Nat, j ≤ l0.length ∧ v7 = .int .i64 j ∧ Aside0 (Below w.heap.size w wr) ∧ Aside0 (∀ q, q < j → txn_right.G l0 q)) (fun v7 _ => l0.length - (intOf v7).toNat)
  case atStart => exact ⟨0, Nat.zero_le _, rfl, ⟨Below.refl _ _⟩, ⟨fun q hq => absurd hq (Nat.not_lt_zero _)⟩⟩
  case round =>
    obtain ⟨j, hj, rfl, HB, HP⟩ := hrel
    by_cases hlt : j < l0.length
    case neg =>
      obtain rfl : j = l0.length := by omega
      have hji : ¬ ((l0.length : Nat) : Int) < ((l0.length : Nat) : Int) := by omega
      go_wp2
      go_ret
      refine ⟨?_, HB.out⟩
      rw [← H.out, txn_right.B_iff.2 HP.out]
      rfl
    case pos =>
      have hji : (j : Int) < (l0.length : Int) := by omega
      have hj0 : 0 ≤ (j : Int) := by omega
      obtain ⟨ad, eA, hx0, hx1, hx2, hx3, hx4⟩ := at_T27 HC.out (j : Int) hj0 hji
      cases eA
      replace hx0 := (HB.out.cell (World.block_lt_of_cell? w _ hx0)).trans hx0; replace hx1 := (HB.out.cell (World.block_lt_of_cell? w _ hx1)).trans hx1; replace hx2 := (HB.out.cell (World.block_lt_of_cell? w _ hx2)).trans hx2; replace hx3 := (HB.out.cell (World.block_lt_of_cell? w _ hx3)).trans hx3; replace hx4 := (HB.out.cell (World.block_lt_of_cell? w _ hx4)).trans hx4
      rw [Int.toNat_natCast] at hx0 hx1 hx2 hx3 hx4
      obtain ⟨⟨f0, f1, f2, f3, f4⟩, hx⟩ : ∃ x, x = rd_T27 l0 (j : Int) := ⟨_, rfl⟩
      rw [← hx] at hx0 hx1 hx2 hx3 hx4
      have HX := Aside0.mk hx
      dsimp only at hx0 hx1 hx2 hx3 hx4
      clear hx
      obtain ⟨pf, hpf⟩ : ∃ p, p = (rd_T27 l0 ((j - 1 : Nat) : Int)).f0 := ⟨_, rfl⟩
      have HG : Aside0 (txn_right.G l0 j ↔ (1 ≤ f0 ∧ f0 ≤ 8 ∧ 1 ≤ f1 ∧ f1 ≤ 1099511627776) ∧ (0 < j → pf < f0)) := ⟨by unfold txn_right.G; rw [← HX.out, ← hpf]⟩
      have HPF := Aside0.mk hpf
      clear hpf
      have HNO : Aside0 (¬ txn_right.G l0 j → false = r) := ⟨fun g => by
        rw [← H.out]
        exact (Bool.eq_false_iff.2 (fun h => g (txn_right.B_iff.1 h j hlt))).symm⟩
      by_cases p : 1 ≤ f0 ∧ f0 ≤ 8
      case neg =>
        have HN : Aside0 (false = r) := ⟨HNO.out fun g => p ⟨(HG.out.1 g).1.1, (HG.out.1 g).1.2.1⟩⟩
        have HQ : Aside0 (∀ m, Calls Try.prog 36 #[.int .i64 f0] ((wr.alloc (.cells #[.int .i64 f0, .int .i64 f1, .int .i64 f2, .int .i64 f3, .int .i64 f4] 27)).drewN m) fun e w' => e = .returned (.bool false) ∧ ∃ m', w' = ((wr.alloc (.cells #[.int .i64 f0, .int .i64 f1, .int .i64 f2, .int .i64 f3, .int .i64 f4] 27)).drewN m).drewN m') := ⟨fun m => (txn_producer.calls f0 _ _ (by
          unfold txn_producer.f
          by_cases h1 : f0 ≥ 1
          · rw [if_pos h1, decide_eq_false (by omega)]
          · rw [if_neg h1])).mono fun e w' h => ⟨h.1, h.2.out⟩⟩
        clear p
        go_wp2_with (fail)
        go_quiet ((go_at_call 36; exact Calls.quiet_of (HQ.out _)))
        go_wp2
        go_ret
        refine ⟨?_, pw_below_drewN (below_alloc HB.out _) _⟩
        rw [← HN.out]
        rfl
      have HQ : Aside0 (∀ m, Calls Try.prog 36 #[.int .i64 f0] ((wr.alloc (.cells #[.int .i64 f0, .int .i64 f1, .int .i64 f2, .int .i64 f3, .int .i64 f4] 27)).drewN m) fun e w' => e = .returned (.bool true) ∧ ∃ m', w' = ((wr.alloc (.cells #[.int .i64 f0, .int .i64 f1, .int .i64 f2, .int .i64 f3, .int .i64 f4] 27)).drewN m).drewN m') := ⟨fun m => (txn_producer.calls f0 _ _ (by
        unfold txn_producer.f
        rw [if_pos p.1, decide_eq_true p.2])).mono fun e w' h => ⟨h.1, h.2.out⟩⟩
      by_cases h0 : 0 < j
      case neg =>
        have g0 : decide (0 < j) = false := decide_eq_false h0
        have HJ : Aside0 (0 < j → pf < f0) := ⟨fun h => (h0 h).elim⟩
        clear h0
        by_cases h2 : f1 < 1
        case pos =>
          have HN : Aside0 (false = r) := ⟨HNO.out fun g => by have := (HG.out.1 g).1; omega⟩
          have h2b : decide (f1 < 1) = true := decide_eq_true h2
          clear h2 p
          go_wp2_with (fail)
          go_quiet ((go_at_call 36; exact Calls.quiet_of (HQ.out _)))
          go_wp2
          go_ret
          refine ⟨?_, pw_below_drewN (below_alloc HB.out _) _⟩
          rw [← HN.out]
          rfl
        by_cases h3 : 1099511627776 < f1
        case pos =>
          have HN : Aside0 (false = r) := ⟨HNO.out fun g => by have := (HG.out.1 g).1; omega⟩
          have h2b : decide (f1 < 1) = false := decide_eq_false h2
          have h3b : decide (1099511627776 < f1) = true := decide_eq_true h3
          clear h2 h3 p
          go_wp2_with (fail)
          go_quiet ((go_at_call 36; exact Calls.quiet_of (HQ.out _)))
          go_wp2
          go_ret
          refine ⟨?_, pw_below_drewN (below_alloc HB.out _) _⟩
          rw [← HN.out]
          rfl
        case neg =>
          have HGj : Aside0 (txn_right.G l0 j) := ⟨HG.out.2 ⟨by omega, HJ.out⟩⟩
          have h2b : decide (f1 < 1) = false := decide_eq_false h2
          have h3b : decide (1099511627776 < f1) = false := decide_eq_false h3
          clear h2 h3 p
          go_wp2_with (fail)
          go_quiet ((go_at_call 36; exact Calls.quiet_of (HQ.out _)))
          go_wp2
          go_roundw
          case rel =>
            refine ⟨j + 1, by omega, by go_num, ⟨pw_below_drewN (below_alloc HB.out _) _⟩, ⟨fun q hq => ?_⟩⟩
            by_cases e : q = j
            · subst e; exact HGj.out
            · exact HP.out q (by omega)
          case measure => simp [intOf]; omega
      case pos =>
        have g0 : decide (0 < j) = true := decide_eq_true h0
        obtain ⟨ad2, eA2, hy0, _⟩ := at_T27 HC.out ((j - 1 : Nat) : Int) (by omega) (by omega)
        obtain rfl : ad = ad2 := Option.some.inj eA2
        replace hy0 := (HB.out.cell (World.block_lt_of_cell? w _ hy0)).trans hy0
        rw [Int.toNat_natCast, ← HPF.out] at hy0
        have hyb := World.block_lt_of_cell? wr _ hy0
        have hy : ∀ o, (wr.alloc o).cell? (ad.add ((j - 1) * 5)) = some (.int .i64 pf) := fun o => (World.cell?_alloc_lt _ _ _ hyb).trans hy0
        have ej : ((j : Int) - 1).toNat = j - 1 := by omega
        have ej0 : (0 : Int) ≤ (j : Int) - 1 := by omega
        have ej1 : (j : Int) - 1 < (l0.length : Int) := by omega
        have ej2 : IntKind.i64.wrap ((j : Int) - 1) = (j : Int) - 1 := by rw [IntKind.wrap_i64]; omega
        have HJ0 := Aside0.mk h0
        clear hy0 hyb eA2 h0
        by_cases h1 : f0 ≤ pf
        case pos =>
          have HN : Aside0 (false = r) := ⟨HNO.out fun g => by have := (HG.out.1 g).2 HJ0.out; omega⟩
          have h1b : decide (f0 ≤ pf) = true := decide_eq_true h1
          clear h1 p
          go_wp2_with (fail)
          go_quiet ((go_at_call 36; exact Calls.quiet_of (HQ.out _)))
          go_wp2
          go_ret
          refine ⟨?_, pw_below_drewN (below_alloc HB.out _) _⟩
          rw [← HN.out]
          rfl
        case neg =>
          have h1b : decide (f0 ≤ pf) = false := decide_eq_false h1
          have HJ : Aside0 (0 < j → pf < f0) := ⟨fun h => by omega⟩
          clear h1
          by_cases h2 : f1 < 1
          case pos =>
            have HN : Aside0 (false = r) := ⟨HNO.out fun g => by have := (HG.out.1 g).1; omega⟩
            have h2b : decide (f1 < 1) = true := decide_eq_true h2
            clear h2 p
            go_wp2_with (fail)
            go_quiet ((go_at_call 36; exact Calls.quiet_of (HQ.out _)))
            go_wp2
            go_ret
            refine ⟨?_, pw_below_drewN (below_alloc HB.out _) _⟩
            rw [← HN.out]
            rfl
          by_cases h3 : 1099511627776 < f1
          case pos =>
            have HN : Aside0 (false = r) := ⟨HNO.out fun g => by have := (HG.out.1 g).1; omega⟩
            have h2b : decide (f1 < 1) = false := decide_eq_false h2
            have h3b : decide (1099511627776 < f1) = true := decide_eq_true h3
            clear h2 h3 p
            go_wp2_with (fail)
            go_quiet ((go_at_call 36; exact Calls.quiet_of (HQ.out _)))
            go_wp2
            go_ret
            refine ⟨?_, pw_below_drewN (below_alloc HB.out _) _⟩
            rw [← HN.out]
            rfl
          case neg =>
            have HGj : Aside0 (txn_right.G l0 j) := ⟨HG.out.2 ⟨by omega, HJ.out⟩⟩
            have h2b : decide (f1 < 1) = false := decide_eq_false h2
            have h3b : decide (1099511627776 < f1) = false := decide_eq_false h3
            clear h2 h3 p
            go_wp2_with (fail)
            go_quiet ((go_at_call 36; exact Calls.quiet_of (HQ.out _)))
            go_wp2
            go_roundw
            case rel =>
              refine ⟨j + 1, by omega, by go_num, ⟨pw_below_drewN (below_alloc HB.out _) _⟩, ⟨fun q hq => ?_⟩⟩
              by_cases e : q = j
              · subst e; exact HGj.out
              · exact HP.out q (by omega)
            case measure => simp [intOf]; omega

/-! ### api_Trans_25: function 25 -/
def enc27 (x : S27) : List Value := [.int .i64 x.f0, .int .i64 x.f1, .int .i64 x.f2, .int .i64 x.f3, .int .i64 x.f4]
theorem flat27 : Sl.Flat k27 enc27 :=
  ⟨fun w base ok x cs => ⟨fun h => k27_openM h, fun h => by subst h; exact k27_mkM w base ok x⟩, fun w x cs => ⟨fun h => k27_open h, fun h => by subst h; exact k27_mk w x⟩⟩
def api_Trans_25.f (l0 : List S27) : Option (List S27) := if l0.length * 40 ≤ 140737488355328 then some l0 else none
set_option maxHeartbeats 4000000 in
set_option maxRecDepth 100000 in
theorem api_Trans_25.calls (A0 : Option Addr) (c0 : Nat) (l0 : List S27) (r : List S27) (w : World) (hr0 : Kd.C k27 w A0 l0.length l0) (hc0 : l0.length ≤ c0) (h : api_Trans_25.f l0 = some r) :
    Calls Try.prog 25 #[.slice A0 l0.length c0] w fun e w' => ∃ v0_ : Value, e = .returned v0_ ∧ Kd.R k27 27 w' w.heap.size (fun _ => True) v0_ r ∧ Below w.heap.size w w' := by
  have HC := Aside0.mk hr0
  have HB0 := Aside0.mk (Below.refl w.heap.size w)
  unfold api_Trans_25.f at h
  split at h
  case isFalse => cases h
  rename_i hbytes
  injection h with h
  subst h
  clear hr0
  rcases A0 with _ | ad
  · have hn : l0 = [] := by
      have h1 := HC.out.2.2
      by_cases h0 : 0 < l0.length
      · obtain ⟨ad, h2, _⟩ := h1 h0; cases h2
      · exact List.eq_nil_of_length_eq_zero (by omega)
    subst hn
    have q0 : ∀ (w : World) (a : Option Addr) (n c n' c' : Nat), (binOp .eql 22 (.slice a n c) (.slice none n' c')).run Try.prog w = .ok (.bool a.isNone) w := fun w a n c n' c' => Lib.run_eql_slice_nil w _ _ a n c n' c' Try.underlying22
    go_enter Try.func25, Try.ntmps25
    go_wp2
    go_ret
    exact ⟨_, rfl, Kd.R_nil _ _ _ _ _, HB0.out⟩
  · have q0 : ∀ (w : World) (a : Option Addr) (n c n' c' : Nat), (binOp .eql 22 (.slice a n c) (.slice none n' c')).run Try.prog w = .ok (.bool a.isNone) w := fun w a n c n' c' => Lib.run_eql_slice_nil w _ _ a n c n' c' Try.underlying22
    have huS := Try.underlying22
    have HR0 : Aside0 (Kd.R k27 27 (w.alloc (.cells #[] 27)) w.heap.size (fun _ => True) (.slice (some ⟨w.heap.size, 0, none⟩) 0 0) []) := ⟨Sl.R_block (xs := []) flat27 (Nat.le_refl _) (blk_new w _) trivial (Nat.le_refl _) (by omega) (by simp) rfl⟩
    have HRd : Aside0 (ReadsRow (k27.K (w.alloc (.cells #[] 27))) k27.sz (w.alloc (.cells #[] 27)) (some ad) l0.length l0) := ⟨Kd.C_below HC.out (below_alloc (Below.refl _ _) _)⟩
    go_enter Try.func25, Try.ntmps25
    go_wp2_with (at_builtin; refine Kd.R_append_rows k27 (Rr := k27.K (w.alloc (.cells #[] 27))) (w0 := w) w.heap.size rfl _ _ _ 27 (.agg #[(.int .i64 0), (.int .i64 0), (.int .i64 0), (.int .i64 0), (.int .i64 0)]) 40 rfl huS (by kernel_rfl) rfl (by decide) (by decide) _ [] l0 (some ad) l0.length c0 (fun _ => True) (fun _ => False) rfl rfl HR0.out HRd.out (fun x cs hx => by rw [(flat27.k _ _ _).1 hx]; exact (flat27.m _ _ _ _ _).2 rfl) (fun _ hk => hk.elim) (fun _ _ => trivial) (below_alloc (Below.refl _ _) _) (by simp) (by simpa using hbytes) ?_; intro v1 w1 hR1 hB1 _ _; have HR1 := Aside0.mk hR1; have HB1 := Aside0.mk hB1; clear hR1 hB1)
    go_ret
    refine ⟨_, rfl, ?_, HB1.out⟩
    have := HR1.out
    rwa [List.nil_append] at this
theorem clone27 (A0 : Option Addr) (c0 : Nat) (l0 : List S27) (w : World) (hr0 : Kd.C k27 w A0 l0.length l0) (hc0 : l0.length ≤ c0) (hb : l0.length * 40 ≤ 140737488355328) :
    Calls Try.prog 25 #[.slice A0 l0.length c0] w fun e w' => ∃ v0_ : Value, e = .returned v0_ ∧ Kd.R k27 27 w' w.heap.size (fun _ => True) v0_ l0 ∧ Below w.heap.size w w' := api_Trans_25.calls A0 c0 l0 l0 w hr0 hc0 (if_pos hb)

-- NOT PRINTED: function 37 (api_Trans_int)

-- NOT PRINTED: function 26 (txn_find)

-- NOT PRINTED: function 39 (api_Trans_39)

-- NOT PRINTED: function 50 (api_Trans_50)

-- NOT PRINTED: function 48 (api_Trans_48)

-- NOT PRINTED: function 40 (api_Trans_40)

-- NOT PRINTED: function 27 (api_Trans_27)

end Go.Proofs.Ytleongigmjhegaa.P
