-- Written by wip/mk.py of this repo: the kit's print program, with contracts of our own among its functions.
import Derived.Test.YtgijangnoekbjaaPx0
import Derived.Test.YtgijangnoekbjaaPx2
import Derived.Test.YtgijangnoekbjaaPx3
import Derived.Test.YtgijangnoekbjaaPx8
import Derived.Test.YtgijangnoekbjaaPx9
import Derived.Test.YtgijangnoekbjaaPx20
import Derived.Test.YtgijangnoekbjaaPx22
namespace Go.Proofs.Ytgijangnoekbjaa.P
open Go.RowKit Go.Proofs.YtgijangnoekbjaaW.PrintWords Go.Proofs.YtgijangnoekbjaaW.PrintLast Go.Proofs.YtgijangnoekbjaaW.PrintMore
attribute [local go_sem] max2_int min2_int max_two min_two max_three min_three max_four min_four   -- for this text's walks alone
set_option linter.unusedVariables false
set_option linter.unusedSimpArgs false

/-! ### headgatelaw29_SketchTells: function 10 -/
mutual
def headgatelaw29_SketchTells.j0 : Nat → List Int → Int → Int → Int → Int → Bool → Option (Bool)
  | 0, _, _, _, _, _, _ => none
  | k + 1, x0, x1, x2, x11, x12, x74 => if x74 = true then (some false) else ((headgateref29_Rank.f (x0.length : Int) x1 x2).bind fun t437 => (headgatelaw29_SketchTells.l0 k x0 x11 x12 t437 0 0 0))
def headgatelaw29_SketchTells.l0 : Nat → List Int → Int → Int → Int → Int → Int → Int → Option (Bool)
  | 0, _, _, _, _, _, _, _ => none
  | k + 1, x0, x11, x12, x14, x15, x16, x17 => if x17 < (x0.length : Int) then (if 0 ≤ x17 then (if (rd x0 x17) ≤ x12 then (if (rd x0 x17) < x11 then (headgatelaw29_SketchTells.l0 k x0 x11 x12 x14 (wrap64 (x15 + 1)) (wrap64 (x16 + 1)) (wrap64 (x17 + 1))) else (headgatelaw29_SketchTells.l0 k x0 x11 x12 x14 (wrap64 (x15 + 1)) x16 (wrap64 (x17 + 1)))) else (if (rd x0 x17) < x11 then (headgatelaw29_SketchTells.l0 k x0 x11 x12 x14 x15 (wrap64 (x16 + 1)) (wrap64 (x17 + 1))) else (headgatelaw29_SketchTells.l0 k x0 x11 x12 x14 x15 x16 (wrap64 (x17 + 1))))) else (none)) else (if x15 ≥ x14 then (if x16 < x14 then ((headgatelaw29_awake.f).bind fun t438 => (some t438)) else (some false)) else (some false))
end
def headgatelaw29_SketchTells.f (k : Nat) (l0 : List Int) (a1 : Int) (a2 : Int) : Option (Bool) := (headgatelaw29_some.f l0).bind fun t424 => (if (wrap64 ((wrap64 (1 + (Int.tmod (wrap64 ((Int.tmod a2 100) + 100)) 100))) + 1)) = 0 then (none) else ((sketch_Add.f k ([] : List (S61)) t424).bind fun bt427 => ((sketch_Quantile.f k bt427.1 (Int.tmod (wrap64 ((wrap64 ((Int.tmod a1 (wrap64 ((wrap64 (1 + (Int.tmod (wrap64 ((Int.tmod a2 100) + 100)) 100))) + 1))) + (wrap64 (1 + (Int.tmod (wrap64 ((Int.tmod a2 100) + 100)) 100))))) + 1)) (wrap64 ((wrap64 (1 + (Int.tmod (wrap64 ((Int.tmod a2 100) + 100)) 100))) + 1))) (wrap64 (1 + (Int.tmod (wrap64 ((Int.tmod a2 100) + 100)) 100)))).bind fun bt431 => (if (t424.length : Int) = 0 then (if bt427.2 = 0 then (if bt431.2 = 3 then ((headgatelaw29_awake.f).bind fun t433 => (some t433)) else (some false)) else (some false)) else ((sketch_Ends.f bt431.1).bind fun bt434 => (if bt427.2 = 0 then (if bt431.2 = 0 then (headgatelaw29_SketchTells.j0 k t424 (Int.tmod (wrap64 ((wrap64 ((Int.tmod a1 (wrap64 ((wrap64 (1 + (Int.tmod (wrap64 ((Int.tmod a2 100) + 100)) 100))) + 1))) + (wrap64 (1 + (Int.tmod (wrap64 ((Int.tmod a2 100) + 100)) 100))))) + 1)) (wrap64 ((wrap64 (1 + (Int.tmod (wrap64 ((Int.tmod a2 100) + 100)) 100))) + 1))) (wrap64 (1 + (Int.tmod (wrap64 ((Int.tmod a2 100) + 100)) 100))) bt434.1 bt434.2.1 (bt434.2.2 != 0)) else (headgatelaw29_SketchTells.j0 k t424 (Int.tmod (wrap64 ((wrap64 ((Int.tmod a1 (wrap64 ((wrap64 (1 + (Int.tmod (wrap64 ((Int.tmod a2 100) + 100)) 100))) + 1))) + (wrap64 (1 + (Int.tmod (wrap64 ((Int.tmod a2 100) + 100)) 100))))) + 1)) (wrap64 ((wrap64 (1 + (Int.tmod (wrap64 ((Int.tmod a2 100) + 100)) 100))) + 1))) (wrap64 (1 + (Int.tmod (wrap64 ((Int.tmod a2 100) + 100)) 100))) bt434.1 bt434.2.1 true)) else (headgatelaw29_SketchTells.j0 k t424 (Int.tmod (wrap64 ((wrap64 ((Int.tmod a1 (wrap64 ((wrap64 (1 + (Int.tmod (wrap64 ((Int.tmod a2 100) + 100)) 100))) + 1))) + (wrap64 (1 + (Int.tmod (wrap64 ((Int.tmod a2 100) + 100)) 100))))) + 1)) (wrap64 ((wrap64 (1 + (Int.tmod (wrap64 ((Int.tmod a2 100) + 100)) 100))) + 1))) (wrap64 (1 + (Int.tmod (wrap64 ((Int.tmod a2 100) + 100)) 100))) bt434.1 bt434.2.1 true)))))))
theorem headgatelaw29_SketchTells.mono_l : ∀ k, (∀ y0 y1 y2 y3 y4 y5, LeO (headgatelaw29_SketchTells.j0 k y0 y1 y2 y3 y4 y5) (headgatelaw29_SketchTells.j0 (k + 1) y0 y1 y2 y3 y4 y5)) ∧ (∀ y0 y1 y2 y3 y4 y5 y6, LeO (headgatelaw29_SketchTells.l0 k y0 y1 y2 y3 y4 y5 y6) (headgatelaw29_SketchTells.l0 (k + 1) y0 y1 y2 y3 y4 y5 y6))
  | 0 => ⟨fun _ _ _ _ _ _ r h => by simp [headgatelaw29_SketchTells.j0] at h, fun _ _ _ _ _ _ _ r h => by simp [headgatelaw29_SketchTells.l0] at h⟩
  | k + 1 => by
    obtain ⟨ih0, ih1⟩ := headgatelaw29_SketchTells.mono_l k
    refine ⟨?_, ?_⟩
    · intro y0 y1 y2 y3 y4 y5
      unfold headgatelaw29_SketchTells.j0
      repeat' first
      | (with_reducible exact ih0 _ _ _ _ _ _)
      | (with_reducible exact ih1 _ _ _ _ _ _ _)
      | (with_reducible exact sketch_Add.mono _ _ _)
      | (with_reducible exact sketch_Quantile.mono _ _ _ _)
      | (with_reducible exact LeO.refl _)
      | (with_reducible exact LeO.none _)
      | (with_reducible refine LeO.ite ?_ ?_)
      | (with_reducible refine LeO.bind ?_ (fun _ => ?_))
      | exact ih0 _ _ _ _ _ _
      | exact ih1 _ _ _ _ _ _ _
      | exact sketch_Add.mono _ _ _
      | exact sketch_Quantile.mono _ _ _ _
      | exact LeO.none _
      | refine LeO.ite ?_ ?_
      | refine LeO.bind ?_ (fun _ => ?_)
    · intro y0 y1 y2 y3 y4 y5 y6
      unfold headgatelaw29_SketchTells.l0
      repeat' first
      | (with_reducible exact ih0 _ _ _ _ _ _)
      | (with_reducible exact ih1 _ _ _ _ _ _ _)
      | (with_reducible exact sketch_Add.mono _ _ _)
      | (with_reducible exact sketch_Quantile.mono _ _ _ _)
      | (with_reducible exact LeO.refl _)
      | (with_reducible exact LeO.none _)
      | (with_reducible refine LeO.ite ?_ ?_)
      | (with_reducible refine LeO.bind ?_ (fun _ => ?_))
      | exact ih0 _ _ _ _ _ _
      | exact ih1 _ _ _ _ _ _ _
      | exact sketch_Add.mono _ _ _
      | exact sketch_Quantile.mono _ _ _ _
      | exact LeO.none _
      | refine LeO.ite ?_ ?_
      | refine LeO.bind ?_ (fun _ => ?_)
theorem headgatelaw29_SketchTells.mono : ∀ a0 a1 a2 k, LeO (headgatelaw29_SketchTells.f k a0 a1 a2) (headgatelaw29_SketchTells.f (k + 1) a0 a1 a2) := by
  intro a0 a1 a2 k
  obtain ⟨ih0, ih1⟩ := headgatelaw29_SketchTells.mono_l k
  unfold headgatelaw29_SketchTells.f
  repeat' first
      | (with_reducible exact ih0 _ _ _ _ _ _)
      | (with_reducible exact ih1 _ _ _ _ _ _ _)
      | (with_reducible exact sketch_Add.mono _ _ _)
      | (with_reducible exact sketch_Quantile.mono _ _ _ _)
      | (with_reducible exact LeO.refl _)
      | (with_reducible exact LeO.none _)
      | (with_reducible refine LeO.ite ?_ ?_)
      | (with_reducible refine LeO.bind ?_ (fun _ => ?_))
      | exact ih0 _ _ _ _ _ _
      | exact ih1 _ _ _ _ _ _ _
      | exact sketch_Add.mono _ _ _
      | exact sketch_Quantile.mono _ _ _ _
      | exact LeO.none _
      | refine LeO.ite ?_ ?_
      | refine LeO.bind ?_ (fun _ => ?_)
set_option maxHeartbeats 8000000 in
set_option maxRecDepth 100000 in
theorem headgatelaw29_SketchTells.calls (k : Nat) (A0 : Option Addr) (c0 : Nat) (l0 : List Int) (a1 : Int) (a2 : Int) (r : Bool) (w : World) (hr0 : Kd.C (Kd.int .i64) w A0 l0.length l0) (hc0 : l0.length ≤ c0) (h : headgatelaw29_SketchTells.f k l0 a1 a2 = some r) :
    Calls Try.prog 10 #[.slice A0 l0.length c0, .int .i64 a1, .int .i64 a2] w fun e w' => e = .returned (.bool r) ∧ Below w.heap.size w w' := by
  have HR0 := Aside0.mk hr0
  have HC0 := Aside0.mk hc0
  clear hr0 hc0
  have HB := Aside0.mk (Below.refl w.heap.size w)
  have H : ((headgatelaw29_some.f l0).bind fun t424 => (if (wrap64 ((wrap64 (1 + (Int.tmod (wrap64 ((Int.tmod a2 100) + 100)) 100))) + 1)) = 0 then (none) else ((sketch_Add.f k ([] : List (S61)) t424).bind fun bt427 => ((sketch_Quantile.f k bt427.1 (Int.tmod (wrap64 ((wrap64 ((Int.tmod a1 (wrap64 ((wrap64 (1 + (Int.tmod (wrap64 ((Int.tmod a2 100) + 100)) 100))) + 1))) + (wrap64 (1 + (Int.tmod (wrap64 ((Int.tmod a2 100) + 100)) 100))))) + 1)) (wrap64 ((wrap64 (1 + (Int.tmod (wrap64 ((Int.tmod a2 100) + 100)) 100))) + 1))) (wrap64 (1 + (Int.tmod (wrap64 ((Int.tmod a2 100) + 100)) 100)))).bind fun bt431 => (if (t424.length : Int) = 0 then (if bt427.2 = 0 then (if bt431.2 = 3 then ((headgatelaw29_awake.f).bind fun t433 => (some t433)) else (some false)) else (some false)) else ((sketch_Ends.f bt431.1).bind fun bt434 => (if bt427.2 = 0 then (if bt431.2 = 0 then (headgatelaw29_SketchTells.j0 k t424 (Int.tmod (wrap64 ((wrap64 ((Int.tmod a1 (wrap64 ((wrap64 (1 + (Int.tmod (wrap64 ((Int.tmod a2 100) + 100)) 100))) + 1))) + (wrap64 (1 + (Int.tmod (wrap64 ((Int.tmod a2 100) + 100)) 100))))) + 1)) (wrap64 ((wrap64 (1 + (Int.tmod (wrap64 ((Int.tmod a2 100) + 100)) 100))) + 1))) (wrap64 (1 + (Int.tmod (wrap64 ((Int.tmod a2 100) + 100)) 100))) bt434.1 bt434.2.1 (bt434.2.2 != 0)) else (headgatelaw29_SketchTells.j0 k t424 (Int.tmod (wrap64 ((wrap64 ((Int.tmod a1 (wrap64 ((wrap64 (1 + (Int.tmod (wrap64 ((Int.tmod a2 100) + 100)) 100))) + 1))) + (wrap64 (1 + (Int.tmod (wrap64 ((Int.tmod a2 100) + 100)) 100))))) + 1)) (wrap64 ((wrap64 (1 + (Int.tmod (wrap64 ((Int.tmod a2 100) + 100)) 100))) + 1))) (wrap64 (1 + (Int.tmod (wrap64 ((Int.tmod a2 100) + 100)) 100))) bt434.1 bt434.2.1 true)) else (headgatelaw29_SketchTells.j0 k t424 (Int.tmod (wrap64 ((wrap64 ((Int.tmod a1 (wrap64 ((wrap64 (1 + (Int.tmod (wrap64 ((Int.tmod a2 100) + 100)) 100))) + 1))) + (wrap64 (1 + (Int.tmod (wrap64 ((Int.tmod a2 100) + 100)) 100))))) + 1)) (wrap64 ((wrap64 (1 + (Int.tmod (wrap64 ((Int.tmod a2 100) + 100)) 100))) + 1))) (wrap64 (1 + (Int.tmod (wrap64 ((Int.tmod a2 100) + 100)) 100))) bt434.1 bt434.2.1 true)))))))) = some r := h
  clear h
  replace H := Option.bind_eq_some_iff.mp H
  obtain ⟨t424, A40, H⟩ := H
  replace H : (if (wrap64 ((wrap64 (1 + (Int.tmod (wrap64 ((Int.tmod a2 100) + 100)) 100))) + 1)) = 0 then (none) else ((sketch_Add.f k ([] : List (S61)) t424).bind fun bt427 => ((sketch_Quantile.f k bt427.1 (Int.tmod (wrap64 ((wrap64 ((Int.tmod a1 (wrap64 ((wrap64 (1 + (Int.tmod (wrap64 ((Int.tmod a2 100) + 100)) 100))) + 1))) + (wrap64 (1 + (Int.tmod (wrap64 ((Int.tmod a2 100) + 100)) 100))))) + 1)) (wrap64 ((wrap64 (1 + (Int.tmod (wrap64 ((Int.tmod a2 100) + 100)) 100))) + 1))) (wrap64 (1 + (Int.tmod (wrap64 ((Int.tmod a2 100) + 100)) 100)))).bind fun bt431 => (if (t424.length : Int) = 0 then (if bt427.2 = 0 then (if bt431.2 = 3 then ((headgatelaw29_awake.f).bind fun t433 => (some t433)) else (some false)) else (some false)) else ((sketch_Ends.f bt431.1).bind fun bt434 => (if bt427.2 = 0 then (if bt431.2 = 0 then (headgatelaw29_SketchTells.j0 k t424 (Int.tmod (wrap64 ((wrap64 ((Int.tmod a1 (wrap64 ((wrap64 (1 + (Int.tmod (wrap64 ((Int.tmod a2 100) + 100)) 100))) + 1))) + (wrap64 (1 + (Int.tmod (wrap64 ((Int.tmod a2 100) + 100)) 100))))) + 1)) (wrap64 ((wrap64 (1 + (Int.tmod (wrap64 ((Int.tmod a2 100) + 100)) 100))) + 1))) (wrap64 (1 + (Int.tmod (wrap64 ((Int.tmod a2 100) + 100)) 100))) bt434.1 bt434.2.1 (bt434.2.2 != 0)) else (headgatelaw29_SketchTells.j0 k t424 (Int.tmod (wrap64 ((wrap64 ((Int.tmod a1 (wrap64 ((wrap64 (1 + (Int.tmod (wrap64 ((Int.tmod a2 100) + 100)) 100))) + 1))) + (wrap64 (1 + (Int.tmod (wrap64 ((Int.tmod a2 100) + 100)) 100))))) + 1)) (wrap64 ((wrap64 (1 + (Int.tmod (wrap64 ((Int.tmod a2 100) + 100)) 100))) + 1))) (wrap64 (1 + (Int.tmod (wrap64 ((Int.tmod a2 100) + 100)) 100))) bt434.1 bt434.2.1 true)) else (headgatelaw29_SketchTells.j0 k t424 (Int.tmod (wrap64 ((wrap64 ((Int.tmod a1 (wrap64 ((wrap64 (1 + (Int.tmod (wrap64 ((Int.tmod a2 100) + 100)) 100))) + 1))) + (wrap64 (1 + (Int.tmod (wrap64 ((Int.tmod a2 100) + 100)) 100))))) + 1)) (wrap64 ((wrap64 (1 + (Int.tmod (wrap64 ((Int.tmod a2 100) + 100)) 100))) + 1))) (wrap64 (1 + (Int.tmod (wrap64 ((Int.tmod a2 100) + 100)) 100))) bt434.1 bt434.2.1 true))))))) = some r := H
  have A4 := Aside0.mk A40
  clear A40
  by_cases c5 : (wrap64 ((wrap64 (1 + (Int.tmod (wrap64 ((Int.tmod a2 100) + 100)) 100))) + 1)) = 0
  · rw [if_pos c5] at H
    exact absurd H (by simp)
  · rw [if_neg c5] at H
    have c5b0 : ((wrap64 ((wrap64 (1 + (Int.tmod (wrap64 ((Int.tmod a2 100) + 100)) 100))) + 1)) == 0) = false := beq_eq_false_iff_ne.mpr c5
    have c5b1 : ((wrap64 ((wrap64 (1 + (Int.tmod (wrap64 ((Int.tmod a2 100) + 100)) 100))) + 1)) != 0) = true := bne_iff_ne.mpr c5
    replace H := Option.bind_eq_some_iff.mp H
    obtain ⟨⟨t427, t428⟩, A60, H⟩ := H
    replace H : ((sketch_Quantile.f k t427 (Int.tmod (wrap64 ((wrap64 ((Int.tmod a1 (wrap64 ((wrap64 (1 + (Int.tmod (wrap64 ((Int.tmod a2 100) + 100)) 100))) + 1))) + (wrap64 (1 + (Int.tmod (wrap64 ((Int.tmod a2 100) + 100)) 100))))) + 1)) (wrap64 ((wrap64 (1 + (Int.tmod (wrap64 ((Int.tmod a2 100) + 100)) 100))) + 1))) (wrap64 (1 + (Int.tmod (wrap64 ((Int.tmod a2 100) + 100)) 100)))).bind fun bt431 => (if (t424.length : Int) = 0 then (if t428 = 0 then (if bt431.2 = 3 then ((headgatelaw29_awake.f).bind fun t433 => (some t433)) else (some false)) else (some false)) else ((sketch_Ends.f bt431.1).bind fun bt434 => (if t428 = 0 then (if bt431.2 = 0 then (headgatelaw29_SketchTells.j0 k t424 (Int.tmod (wrap64 ((wrap64 ((Int.tmod a1 (wrap64 ((wrap64 (1 + (Int.tmod (wrap64 ((Int.tmod a2 100) + 100)) 100))) + 1))) + (wrap64 (1 + (Int.tmod (wrap64 ((Int.tmod a2 100) + 100)) 100))))) + 1)) (wrap64 ((wrap64 (1 + (Int.tmod (wrap64 ((Int.tmod a2 100) + 100)) 100))) + 1))) (wrap64 (1 + (Int.tmod (wrap64 ((Int.tmod a2 100) + 100)) 100))) bt434.1 bt434.2.1 (bt434.2.2 != 0)) else (headgatelaw29_SketchTells.j0 k t424 (Int.tmod (wrap64 ((wrap64 ((Int.tmod a1 (wrap64 ((wrap64 (1 + (Int.tmod (wrap64 ((Int.tmod a2 100) + 100)) 100))) + 1))) + (wrap64 (1 + (Int.tmod (wrap64 ((Int.tmod a2 100) + 100)) 100))))) + 1)) (wrap64 ((wrap64 (1 + (Int.tmod (wrap64 ((Int.tmod a2 100) + 100)) 100))) + 1))) (wrap64 (1 + (Int.tmod (wrap64 ((Int.tmod a2 100) + 100)) 100))) bt434.1 bt434.2.1 true)) else (headgatelaw29_SketchTells.j0 k t424 (Int.tmod (wrap64 ((wrap64 ((Int.tmod a1 (wrap64 ((wrap64 (1 + (Int.tmod (wrap64 ((Int.tmod a2 100) + 100)) 100))) + 1))) + (wrap64 (1 + (Int.tmod (wrap64 ((Int.tmod a2 100) + 100)) 100))))) + 1)) (wrap64 ((wrap64 (1 + (Int.tmod (wrap64 ((Int.tmod a2 100) + 100)) 100))) + 1))) (wrap64 (1 + (Int.tmod (wrap64 ((Int.tmod a2 100) + 100)) 100))) bt434.1 bt434.2.1 true))))) = some r := H
    have A6 := Aside0.mk A60
    clear A60
    replace H := Option.bind_eq_some_iff.mp H
    obtain ⟨⟨t431, t432⟩, A70, H⟩ := H
    replace H : (if (t424.length : Int) = 0 then (if t428 = 0 then (if t432 = 3 then ((headgatelaw29_awake.f).bind fun t433 => (some t433)) else (some false)) else (some false)) else ((sketch_Ends.f t431).bind fun bt434 => (if t428 = 0 then (if t432 = 0 then (headgatelaw29_SketchTells.j0 k t424 (Int.tmod (wrap64 ((wrap64 ((Int.tmod a1 (wrap64 ((wrap64 (1 + (Int.tmod (wrap64 ((Int.tmod a2 100) + 100)) 100))) + 1))) + (wrap64 (1 + (Int.tmod (wrap64 ((Int.tmod a2 100) + 100)) 100))))) + 1)) (wrap64 ((wrap64 (1 + (Int.tmod (wrap64 ((Int.tmod a2 100) + 100)) 100))) + 1))) (wrap64 (1 + (Int.tmod (wrap64 ((Int.tmod a2 100) + 100)) 100))) bt434.1 bt434.2.1 (bt434.2.2 != 0)) else (headgatelaw29_SketchTells.j0 k t424 (Int.tmod (wrap64 ((wrap64 ((Int.tmod a1 (wrap64 ((wrap64 (1 + (Int.tmod (wrap64 ((Int.tmod a2 100) + 100)) 100))) + 1))) + (wrap64 (1 + (Int.tmod (wrap64 ((Int.tmod a2 100) + 100)) 100))))) + 1)) (wrap64 ((wrap64 (1 + (Int.tmod (wrap64 ((Int.tmod a2 100) + 100)) 100))) + 1))) (wrap64 (1 + (Int.tmod (wrap64 ((Int.tmod a2 100) + 100)) 100))) bt434.1 bt434.2.1 true)) else (headgatelaw29_SketchTells.j0 k t424 (Int.tmod (wrap64 ((wrap64 ((Int.tmod a1 (wrap64 ((wrap64 (1 + (Int.tmod (wrap64 ((Int.tmod a2 100) + 100)) 100))) + 1))) + (wrap64 (1 + (Int.tmod (wrap64 ((Int.tmod a2 100) + 100)) 100))))) + 1)) (wrap64 ((wrap64 (1 + (Int.tmod (wrap64 ((Int.tmod a2 100) + 100)) 100))) + 1))) (wrap64 (1 + (Int.tmod (wrap64 ((Int.tmod a2 100) + 100)) 100))) bt434.1 bt434.2.1 true)))) = some r := H
    have A7 := Aside0.mk A70
    clear A70
    by_cases c8 : (t424.length : Int) = 0
    · rw [if_pos c8] at H
      have c8b0 : ((t424.length : Int) == 0) = true := beq_iff_eq.mpr c8
      have c8b1 : ((t424.length : Int) != 0) = false := bne_eq_false_iff_eq.mpr c8
      clear c8
      by_cases c9 : t428 = 0
      · rw [if_pos c9] at H
        have c9b0 : (t428 == 0) = true := beq_iff_eq.mpr c9
        have c9b1 : (t428 != 0) = false := bne_eq_false_iff_eq.mpr c9
        clear c9
        by_cases c10 : t432 = 3
        · rw [if_pos c10] at H
          have c10b0 : (t432 == 3) = true := beq_iff_eq.mpr c10
          have c10b1 : (t432 != 3) = false := bne_eq_false_iff_eq.mpr c10
          clear c10
          replace H := Option.bind_eq_some_iff.mp H
          obtain ⟨t433, A110, H⟩ := H
          replace H : (some t433) = some r := H
          have A11 := Aside0.mk A110
          clear A110
          obtain rfl := Option.some.inj H
          go_enter Try.func10, Try.ntmps10
          go_wp2_with (first | ((with_reducible refine gate_callee (f := 24) rfl ?_); refine goesL_ (some 19) rfl rfl Try.func24 (by kernel_rfl) rfl #[.slice A0 l0.length c0] rfl (by (try simp only [List.map_toArray, List.map_cons, List.map_nil]); first | done | rfl | (simp only [List.length_drop, List.length_take]; rfl)) ?_; (with_reducible refine (headgatelaw29_some.calls (fun k_ => k_ < w.heap.size) _ _ l0 t424 _ ?side1 A4.out).mono ?_); (case side1 => exact Kd.V_mk HC0.out (Kd.F_below (Kd.C_F (Kd.heap_int .i64) HR0.out) (by repeat (first | (with_reducible first | exact HB.out | apply below_alloc | apply pw_below_drewN | apply below_drew1) | exact HB.out)))); rintro e w12 ⟨v425, rfl, ho0, hb⟩; refine ⟨_, rfl, ?_⟩; have n0_ := Aside0.mk (Kd.V_lower (Kd.V_mono (ok' := fun k_ => True) ho0 (fun k_ hk_ => trivial)) (below_size (by repeat (first | (with_reducible first | exact HB.out | apply below_alloc | apply pw_below_drewN | apply below_drew1) | exact HB.out)))); have n1_ := Aside0.mk (below_step (by repeat (first | (with_reducible first | exact HB.out | apply below_alloc | apply pw_below_drewN | apply below_drew1) | exact HB.out)) hb); clear HB; have HO426 := n0_; have HB := n1_; clear n0_ n1_; (try clear hb); (try clear hb2); (try clear hk); (try clear hi); (try clear ho0); obtain ⟨Ao13, co13, eo13⟩ := Kd.V_slice HO426.out; subst eo13) | ((with_reducible refine gate_callee (f := 25) rfl ?_); refine goesL_ (some 37) rfl rfl Try.func25 (by kernel_rfl) rfl #[.slice none 0 0, .slice Ao13 t424.length co13] rfl (by (try simp only [List.map_toArray, List.map_cons, List.map_nil]); first | done | rfl | (simp only [List.length_drop, List.length_take]; rfl)) ?_; (refine (sketch_Add.calls k _ _ ([] : List (S61)) _ _ t424 t427 t428 _ ?side1 ?side2 ?side3 ?side4 A6.out).mono ?_); (case side1 => exact Kd.C_nil _ _); (case side2 => exact Nat.le_refl _); (case side3 => repeat (first | exact (Kd.V_reads' HO426.out).2.2 | (with_reducible refine Kd.C_alloc ?_ _) | (with_reducible refine Kd.C_drewN ?_ _) | (with_reducible refine Kd.C_drew ?_))); (case side4 => exact (Kd.V_reads' HO426.out).2.1); rintro e w14 ⟨v429, rfl, ho0, hb⟩; refine ⟨_, rfl, ?_⟩; have n0_ := Aside0.mk (Kd.V_elder' (by (with_reducible repeat (first | apply Kd.V_alloc | apply Kd.V_drewN | apply Kd.V_drew)); exact HO426.out) (Kd.R_base ho0) hb); have n1_ := Aside0.mk (Kd.R_lower ho0 (below_size (by repeat (first | (with_reducible first | exact HB.out | apply below_alloc | apply pw_below_drewN | apply below_drew1) | exact HB.out)))); have n2_ := Aside0.mk (below_step (by repeat (first | (with_reducible first | exact HB.out | apply below_alloc | apply pw_below_drewN | apply below_drew1) | exact HB.out)) hb); clear HO426; clear HB; have HO426 := n0_; have HO430 := n1_; have HB := n2_; clear n0_ n1_ n2_; (try clear hb); (try clear hb2); (try clear hk); (try clear hi); (try clear ho0); obtain ⟨Ao15, co15, eo15⟩ := Kd.R_slice HO430.out; subst eo15) | ((with_reducible refine gate_callee (f := 17) rfl ?_); refine goesL_ (some 44) rfl rfl Try.func17 (by kernel_rfl) rfl #[.slice Ao15 t427.length co15, .int .i64 (Int.tmod (wrap64 ((wrap64 ((Int.tmod a1 (wrap64 ((wrap64 (1 + (Int.tmod (wrap64 ((Int.tmod a2 100) + 100)) 100))) + 1))) + (wrap64 (1 + (Int.tmod (wrap64 ((Int.tmod a2 100) + 100)) 100))))) + 1)) (wrap64 ((wrap64 (1 + (Int.tmod (wrap64 ((Int.tmod a2 100) + 100)) 100))) + 1))), .int .i64 (wrap64 (1 + (Int.tmod (wrap64 ((Int.tmod a2 100) + 100)) 100)))] rfl (by (try simp only [List.map_toArray, List.map_cons, List.map_nil]); first | done | rfl | (simp only [List.length_drop, List.length_take]; rfl)) ?_; (with_reducible refine (sketch_Quantile.calls k _ _ t427 (Int.tmod (wrap64 ((wrap64 ((Int.tmod a1 (wrap64 ((wrap64 (1 + (Int.tmod (wrap64 ((Int.tmod a2 100) + 100)) 100))) + 1))) + (wrap64 (1 + (Int.tmod (wrap64 ((Int.tmod a2 100) + 100)) 100))))) + 1)) (wrap64 ((wrap64 (1 + (Int.tmod (wrap64 ((Int.tmod a2 100) + 100)) 100))) + 1))) (wrap64 (1 + (Int.tmod (wrap64 ((Int.tmod a2 100) + 100)) 100))) t431 t432 _ ?side1 ?side2 A7.out).mono ?_); (case side1 => repeat (first | exact (Kd.R_reads' HO430.out).2.2 | (with_reducible refine Kd.C_alloc ?_ _) | (with_reducible refine Kd.C_drewN ?_ _) | (with_reducible refine Kd.C_drew ?_))); (case side2 => exact (Kd.R_reads' HO430.out).2.1); rintro e w16 ⟨rfl, hb⟩; refine ⟨_, rfl, ?_⟩; have n0_ := Aside0.mk (Kd.V_below (by (with_reducible repeat (first | apply Kd.V_alloc | apply Kd.V_drewN | apply Kd.V_drew)); exact HO426.out) hb); have n1_ := Aside0.mk (Kd.R_below (by (with_reducible repeat (first | apply Kd.R_alloc | apply Kd.R_drewN | apply Kd.R_drew)); exact HO430.out) hb); have n2_ := Aside0.mk (below_step (by repeat (first | (with_reducible first | exact HB.out | apply below_alloc | apply pw_below_drewN | apply below_drew1) | exact HB.out)) hb); clear HO426; clear HO430; clear HB; have HO426 := n0_; have HO430 := n1_; have HB := n2_; clear n0_ n1_ n2_; (try clear hb); (try clear hb2); (try clear hk); (try clear hi)) | (go_at_call 15; (with_reducible refine (headgatelaw29_awake.calls  t433 _ A11.out).mono ?_); rintro e w17 ⟨rfl, hb⟩; have n0_ := Aside0.mk (Kd.V_below (by (with_reducible repeat (first | apply Kd.V_alloc | apply Kd.V_drewN | apply Kd.V_drew)); exact HO426.out) hb); have n1_ := Aside0.mk (Kd.R_below (by (with_reducible repeat (first | apply Kd.R_alloc | apply Kd.R_drewN | apply Kd.R_drew)); exact HO430.out) hb); have n2_ := Aside0.mk (below_step (by repeat (first | (with_reducible first | exact HB.out | apply below_alloc | apply pw_below_drewN | apply below_drew1) | exact HB.out)) hb); clear HO426; clear HO430; clear HB; have HO426 := n0_; have HO430 := n1_; have HB := n2_; clear n0_ n1_ n2_; (try clear hb); (try clear hb2); (try clear hk); (try clear hi)))
          go_ret
          exact ⟨by first | rfl | (simp [errW_none, errW_some] <;> rfl) | (simp [*, errW_none, errW_some] <;> rfl), by repeat (first | (with_reducible first | exact HB.out | apply below_alloc | apply pw_below_drewN | apply below_drew1) | exact HB.out)⟩
        · rw [if_neg c10] at H
          have c10b0 : (t432 == 3) = false := beq_eq_false_iff_ne.mpr c10
          have c10b1 : (t432 != 3) = true := bne_iff_ne.mpr c10
          obtain rfl := Option.some.inj H
          go_enter Try.func10, Try.ntmps10
          go_wp2_with (first | ((with_reducible refine gate_callee (f := 24) rfl ?_); refine goesL_ (some 19) rfl rfl Try.func24 (by kernel_rfl) rfl #[.slice A0 l0.length c0] rfl (by (try simp only [List.map_toArray, List.map_cons, List.map_nil]); first | done | rfl | (simp only [List.length_drop, List.length_take]; rfl)) ?_; (with_reducible refine (headgatelaw29_some.calls (fun k_ => k_ < w.heap.size) _ _ l0 t424 _ ?side1 A4.out).mono ?_); (case side1 => exact Kd.V_mk HC0.out (Kd.F_below (Kd.C_F (Kd.heap_int .i64) HR0.out) (by repeat (first | (with_reducible first | exact HB.out | apply below_alloc | apply pw_below_drewN | apply below_drew1) | exact HB.out)))); rintro e w18 ⟨v425, rfl, ho0, hb⟩; refine ⟨_, rfl, ?_⟩; have n0_ := Aside0.mk (Kd.V_lower (Kd.V_mono (ok' := fun k_ => True) ho0 (fun k_ hk_ => trivial)) (below_size (by repeat (first | (with_reducible first | exact HB.out | apply below_alloc | apply pw_below_drewN | apply below_drew1) | exact HB.out)))); have n1_ := Aside0.mk (below_step (by repeat (first | (with_reducible first | exact HB.out | apply below_alloc | apply pw_below_drewN | apply below_drew1) | exact HB.out)) hb); clear HB; have HO426 := n0_; have HB := n1_; clear n0_ n1_; (try clear hb); (try clear hb2); (try clear hk); (try clear hi); (try clear ho0); obtain ⟨Ao19, co19, eo19⟩ := Kd.V_slice HO426.out; subst eo19) | ((with_reducible refine gate_callee (f := 25) rfl ?_); refine goesL_ (some 37) rfl rfl Try.func25 (by kernel_rfl) rfl #[.slice none 0 0, .slice Ao19 t424.length co19] rfl (by (try simp only [List.map_toArray, List.map_cons, List.map_nil]); first | done | rfl | (simp only [List.length_drop, List.length_take]; rfl)) ?_; (refine (sketch_Add.calls k _ _ ([] : List (S61)) _ _ t424 t427 t428 _ ?side1 ?side2 ?side3 ?side4 A6.out).mono ?_); (case side1 => exact Kd.C_nil _ _); (case side2 => exact Nat.le_refl _); (case side3 => repeat (first | exact (Kd.V_reads' HO426.out).2.2 | (with_reducible refine Kd.C_alloc ?_ _) | (with_reducible refine Kd.C_drewN ?_ _) | (with_reducible refine Kd.C_drew ?_))); (case side4 => exact (Kd.V_reads' HO426.out).2.1); rintro e w20 ⟨v429, rfl, ho0, hb⟩; refine ⟨_, rfl, ?_⟩; have n0_ := Aside0.mk (Kd.V_elder' (by (with_reducible repeat (first | apply Kd.V_alloc | apply Kd.V_drewN | apply Kd.V_drew)); exact HO426.out) (Kd.R_base ho0) hb); have n1_ := Aside0.mk (Kd.R_lower ho0 (below_size (by repeat (first | (with_reducible first | exact HB.out | apply below_alloc | apply pw_below_drewN | apply below_drew1) | exact HB.out)))); have n2_ := Aside0.mk (below_step (by repeat (first | (with_reducible first | exact HB.out | apply below_alloc | apply pw_below_drewN | apply below_drew1) | exact HB.out)) hb); clear HO426; clear HB; have HO426 := n0_; have HO430 := n1_; have HB := n2_; clear n0_ n1_ n2_; (try clear hb); (try clear hb2); (try clear hk); (try clear hi); (try clear ho0); obtain ⟨Ao21, co21, eo21⟩ := Kd.R_slice HO430.out; subst eo21) | ((with_reducible refine gate_callee (f := 17) rfl ?_); refine goesL_ (some 44) rfl rfl Try.func17 (by kernel_rfl) rfl #[.slice Ao21 t427.length co21, .int .i64 (Int.tmod (wrap64 ((wrap64 ((Int.tmod a1 (wrap64 ((wrap64 (1 + (Int.tmod (wrap64 ((Int.tmod a2 100) + 100)) 100))) + 1))) + (wrap64 (1 + (Int.tmod (wrap64 ((Int.tmod a2 100) + 100)) 100))))) + 1)) (wrap64 ((wrap64 (1 + (Int.tmod (wrap64 ((Int.tmod a2 100) + 100)) 100))) + 1))), .int .i64 (wrap64 (1 + (Int.tmod (wrap64 ((Int.tmod a2 100) + 100)) 100)))] rfl (by (try simp only [List.map_toArray, List.map_cons, List.map_nil]); first | done | rfl | (simp only [List.length_drop, List.length_take]; rfl)) ?_; (with_reducible refine (sketch_Quantile.calls k _ _ t427 (Int.tmod (wrap64 ((wrap64 ((Int.tmod a1 (wrap64 ((wrap64 (1 + (Int.tmod (wrap64 ((Int.tmod a2 100) + 100)) 100))) + 1))) + (wrap64 (1 + (Int.tmod (wrap64 ((Int.tmod a2 100) + 100)) 100))))) + 1)) (wrap64 ((wrap64 (1 + (Int.tmod (wrap64 ((Int.tmod a2 100) + 100)) 100))) + 1))) (wrap64 (1 + (Int.tmod (wrap64 ((Int.tmod a2 100) + 100)) 100))) t431 t432 _ ?side1 ?side2 A7.out).mono ?_); (case side1 => repeat (first | exact (Kd.R_reads' HO430.out).2.2 | (with_reducible refine Kd.C_alloc ?_ _) | (with_reducible refine Kd.C_drewN ?_ _) | (with_reducible refine Kd.C_drew ?_))); (case side2 => exact (Kd.R_reads' HO430.out).2.1); rintro e w22 ⟨rfl, hb⟩; refine ⟨_, rfl, ?_⟩; have n0_ := Aside0.mk (Kd.V_below (by (with_reducible repeat (first | apply Kd.V_alloc | apply Kd.V_drewN | apply Kd.V_drew)); exact HO426.out) hb); have n1_ := Aside0.mk (Kd.R_below (by (with_reducible repeat (first | apply Kd.R_alloc | apply Kd.R_drewN | apply Kd.R_drew)); exact HO430.out) hb); have n2_ := Aside0.mk (below_step (by repeat (first | (with_reducible first | exact HB.out | apply below_alloc | apply pw_below_drewN | apply below_drew1) | exact HB.out)) hb); clear HO426; clear HO430; clear HB; have HO426 := n0_; have HO430 := n1_; have HB := n2_; clear n0_ n1_ n2_; (try clear hb); (try clear hb2); (try clear hk); (try clear hi)))
          go_ret
          exact ⟨by first | rfl | (simp [errW_none, errW_some] <;> rfl) | (simp [*, errW_none, errW_some] <;> rfl), by repeat (first | (with_reducible first | exact HB.out | apply below_alloc | apply pw_below_drewN | apply below_drew1) | exact HB.out)⟩
      · rw [if_neg c9] at H
        have c9b0 : (t428 == 0) = false := beq_eq_false_iff_ne.mpr c9
        have c9b1 : (t428 != 0) = true := bne_iff_ne.mpr c9
        obtain rfl := Option.some.inj H
        go_enter Try.func10, Try.ntmps10
        go_wp2_with (first | ((with_reducible refine gate_callee (f := 24) rfl ?_); refine goesL_ (some 19) rfl rfl Try.func24 (by kernel_rfl) rfl #[.slice A0 l0.length c0] rfl (by (try simp only [List.map_toArray, List.map_cons, List.map_nil]); first | done | rfl | (simp only [List.length_drop, List.length_take]; rfl)) ?_; (with_reducible refine (headgatelaw29_some.calls (fun k_ => k_ < w.heap.size) _ _ l0 t424 _ ?side1 A4.out).mono ?_); (case side1 => exact Kd.V_mk HC0.out (Kd.F_below (Kd.C_F (Kd.heap_int .i64) HR0.out) (by repeat (first | (with_reducible first | exact HB.out | apply below_alloc | apply pw_below_drewN | apply below_drew1) | exact HB.out)))); rintro e w23 ⟨v425, rfl, ho0, hb⟩; refine ⟨_, rfl, ?_⟩; have n0_ := Aside0.mk (Kd.V_lower (Kd.V_mono (ok' := fun k_ => True) ho0 (fun k_ hk_ => trivial)) (below_size (by repeat (first | (with_reducible first | exact HB.out | apply below_alloc | apply pw_below_drewN | apply below_drew1) | exact HB.out)))); have n1_ := Aside0.mk (below_step (by repeat (first | (with_reducible first | exact HB.out | apply below_alloc | apply pw_below_drewN | apply below_drew1) | exact HB.out)) hb); clear HB; have HO426 := n0_; have HB := n1_; clear n0_ n1_; (try clear hb); (try clear hb2); (try clear hk); (try clear hi); (try clear ho0); obtain ⟨Ao24, co24, eo24⟩ := Kd.V_slice HO426.out; subst eo24) | ((with_reducible refine gate_callee (f := 25) rfl ?_); refine goesL_ (some 37) rfl rfl Try.func25 (by kernel_rfl) rfl #[.slice none 0 0, .slice Ao24 t424.length co24] rfl (by (try simp only [List.map_toArray, List.map_cons, List.map_nil]); first | done | rfl | (simp only [List.length_drop, List.length_take]; rfl)) ?_; (refine (sketch_Add.calls k _ _ ([] : List (S61)) _ _ t424 t427 t428 _ ?side1 ?side2 ?side3 ?side4 A6.out).mono ?_); (case side1 => exact Kd.C_nil _ _); (case side2 => exact Nat.le_refl _); (case side3 => repeat (first | exact (Kd.V_reads' HO426.out).2.2 | (with_reducible refine Kd.C_alloc ?_ _) | (with_reducible refine Kd.C_drewN ?_ _) | (with_reducible refine Kd.C_drew ?_))); (case side4 => exact (Kd.V_reads' HO426.out).2.1); rintro e w25 ⟨v429, rfl, ho0, hb⟩; refine ⟨_, rfl, ?_⟩; have n0_ := Aside0.mk (Kd.V_elder' (by (with_reducible repeat (first | apply Kd.V_alloc | apply Kd.V_drewN | apply Kd.V_drew)); exact HO426.out) (Kd.R_base ho0) hb); have n1_ := Aside0.mk (Kd.R_lower ho0 (below_size (by repeat (first | (with_reducible first | exact HB.out | apply below_alloc | apply pw_below_drewN | apply below_drew1) | exact HB.out)))); have n2_ := Aside0.mk (below_step (by repeat (first | (with_reducible first | exact HB.out | apply below_alloc | apply pw_below_drewN | apply below_drew1) | exact HB.out)) hb); clear HO426; clear HB; have HO426 := n0_; have HO430 := n1_; have HB := n2_; clear n0_ n1_ n2_; (try clear hb); (try clear hb2); (try clear hk); (try clear hi); (try clear ho0); obtain ⟨Ao26, co26, eo26⟩ := Kd.R_slice HO430.out; subst eo26) | ((with_reducible refine gate_callee (f := 17) rfl ?_); refine goesL_ (some 44) rfl rfl Try.func17 (by kernel_rfl) rfl #[.slice Ao26 t427.length co26, .int .i64 (Int.tmod (wrap64 ((wrap64 ((Int.tmod a1 (wrap64 ((wrap64 (1 + (Int.tmod (wrap64 ((Int.tmod a2 100) + 100)) 100))) + 1))) + (wrap64 (1 + (Int.tmod (wrap64 ((Int.tmod a2 100) + 100)) 100))))) + 1)) (wrap64 ((wrap64 (1 + (Int.tmod (wrap64 ((Int.tmod a2 100) + 100)) 100))) + 1))), .int .i64 (wrap64 (1 + (Int.tmod (wrap64 ((Int.tmod a2 100) + 100)) 100)))] rfl (by (try simp only [List.map_toArray, List.map_cons, List.map_nil]); first | done | rfl | (simp only [List.length_drop, List.length_take]; rfl)) ?_; (with_reducible refine (sketch_Quantile.calls k _ _ t427 (Int.tmod (wrap64 ((wrap64 ((Int.tmod a1 (wrap64 ((wrap64 (1 + (Int.tmod (wrap64 ((Int.tmod a2 100) + 100)) 100))) + 1))) + (wrap64 (1 + (Int.tmod (wrap64 ((Int.tmod a2 100) + 100)) 100))))) + 1)) (wrap64 ((wrap64 (1 + (Int.tmod (wrap64 ((Int.tmod a2 100) + 100)) 100))) + 1))) (wrap64 (1 + (Int.tmod (wrap64 ((Int.tmod a2 100) + 100)) 100))) t431 t432 _ ?side1 ?side2 A7.out).mono ?_); (case side1 => repeat (first | exact (Kd.R_reads' HO430.out).2.2 | (with_reducible refine Kd.C_alloc ?_ _) | (with_reducible refine Kd.C_drewN ?_ _) | (with_reducible refine Kd.C_drew ?_))); (case side2 => exact (Kd.R_reads' HO430.out).2.1); rintro e w27 ⟨rfl, hb⟩; refine ⟨_, rfl, ?_⟩; have n0_ := Aside0.mk (Kd.V_below (by (with_reducible repeat (first | apply Kd.V_alloc | apply Kd.V_drewN | apply Kd.V_drew)); exact HO426.out) hb); have n1_ := Aside0.mk (Kd.R_below (by (with_reducible repeat (first | apply Kd.R_alloc | apply Kd.R_drewN | apply Kd.R_drew)); exact HO430.out) hb); have n2_ := Aside0.mk (below_step (by repeat (first | (with_reducible first | exact HB.out | apply below_alloc | apply pw_below_drewN | apply below_drew1) | exact HB.out)) hb); clear HO426; clear HO430; clear HB; have HO426 := n0_; have HO430 := n1_; have HB := n2_; clear n0_ n1_ n2_; (try clear hb); (try clear hb2); (try clear hk); (try clear hi)))
        go_ret
        exact ⟨by first | rfl | (simp [errW_none, errW_some] <;> rfl) | (simp [*, errW_none, errW_some] <;> rfl), by repeat (first | (with_reducible first | exact HB.out | apply below_alloc | apply pw_below_drewN | apply below_drew1) | exact HB.out)⟩
    · rw [if_neg c8] at H
      have c8b0 : ((t424.length : Int) == 0) = false := beq_eq_false_iff_ne.mpr c8
      have c8b1 : ((t424.length : Int) != 0) = true := bne_iff_ne.mpr c8
      have c8b2 : ¬ (t424 = []) := fun h_ => c8 (by rw [h_]; rfl)
      replace H := Option.bind_eq_some_iff.mp H
      obtain ⟨⟨t434, t435, t436⟩, A280, H⟩ := H
      replace H : (if t428 = 0 then (if t432 = 0 then (headgatelaw29_SketchTells.j0 k t424 (Int.tmod (wrap64 ((wrap64 ((Int.tmod a1 (wrap64 ((wrap64 (1 + (Int.tmod (wrap64 ((Int.tmod a2 100) + 100)) 100))) + 1))) + (wrap64 (1 + (Int.tmod (wrap64 ((Int.tmod a2 100) + 100)) 100))))) + 1)) (wrap64 ((wrap64 (1 + (Int.tmod (wrap64 ((Int.tmod a2 100) + 100)) 100))) + 1))) (wrap64 (1 + (Int.tmod (wrap64 ((Int.tmod a2 100) + 100)) 100))) t434 t435 (t436 != 0)) else (headgatelaw29_SketchTells.j0 k t424 (Int.tmod (wrap64 ((wrap64 ((Int.tmod a1 (wrap64 ((wrap64 (1 + (Int.tmod (wrap64 ((Int.tmod a2 100) + 100)) 100))) + 1))) + (wrap64 (1 + (Int.tmod (wrap64 ((Int.tmod a2 100) + 100)) 100))))) + 1)) (wrap64 ((wrap64 (1 + (Int.tmod (wrap64 ((Int.tmod a2 100) + 100)) 100))) + 1))) (wrap64 (1 + (Int.tmod (wrap64 ((Int.tmod a2 100) + 100)) 100))) t434 t435 true)) else (headgatelaw29_SketchTells.j0 k t424 (Int.tmod (wrap64 ((wrap64 ((Int.tmod a1 (wrap64 ((wrap64 (1 + (Int.tmod (wrap64 ((Int.tmod a2 100) + 100)) 100))) + 1))) + (wrap64 (1 + (Int.tmod (wrap64 ((Int.tmod a2 100) + 100)) 100))))) + 1)) (wrap64 ((wrap64 (1 + (Int.tmod (wrap64 ((Int.tmod a2 100) + 100)) 100))) + 1))) (wrap64 (1 + (Int.tmod (wrap64 ((Int.tmod a2 100) + 100)) 100))) t434 t435 true)) = some r := H
      have A28 := Aside0.mk A280
      clear A280
      have HC29 := Aside0.mk H
      clear H
      go_enter Try.func10, Try.ntmps10
      go_upto_region 9 with (first | ((with_reducible refine gate_callee (f := 24) rfl ?_); refine goesL_ (some 19) rfl rfl Try.func24 (by kernel_rfl) rfl #[.slice A0 l0.length c0] rfl (by (try simp only [List.map_toArray, List.map_cons, List.map_nil]); first | done | rfl | (simp only [List.length_drop, List.length_take]; rfl)) ?_; (with_reducible refine (headgatelaw29_some.calls (fun k_ => k_ < w.heap.size) _ _ l0 t424 _ ?side1 A4.out).mono ?_); (case side1 => exact Kd.V_mk HC0.out (Kd.F_below (Kd.C_F (Kd.heap_int .i64) HR0.out) (by repeat (first | (with_reducible first | exact HB.out | apply below_alloc | apply pw_below_drewN | apply below_drew1) | exact HB.out)))); rintro e w30 ⟨v425, rfl, ho0, hb⟩; refine ⟨_, rfl, ?_⟩; have n0_ := Aside0.mk (Kd.V_lower (Kd.V_mono (ok' := fun k_ => True) ho0 (fun k_ hk_ => trivial)) (below_size (by repeat (first | (with_reducible first | exact HB.out | apply below_alloc | apply pw_below_drewN | apply below_drew1) | exact HB.out)))); have n1_ := Aside0.mk (below_step (by repeat (first | (with_reducible first | exact HB.out | apply below_alloc | apply pw_below_drewN | apply below_drew1) | exact HB.out)) hb); clear HB; have HO426 := n0_; have HB := n1_; clear n0_ n1_; (try clear hb); (try clear hb2); (try clear hk); (try clear hi); (try clear ho0); obtain ⟨Ao31, co31, eo31⟩ := Kd.V_slice HO426.out; subst eo31) | ((with_reducible refine gate_callee (f := 25) rfl ?_); refine goesL_ (some 37) rfl rfl Try.func25 (by kernel_rfl) rfl #[.slice none 0 0, .slice Ao31 t424.length co31] rfl (by (try simp only [List.map_toArray, List.map_cons, List.map_nil]); first | done | rfl | (simp only [List.length_drop, List.length_take]; rfl)) ?_; (refine (sketch_Add.calls k _ _ ([] : List (S61)) _ _ t424 t427 t428 _ ?side1 ?side2 ?side3 ?side4 A6.out).mono ?_); (case side1 => exact Kd.C_nil _ _); (case side2 => exact Nat.le_refl _); (case side3 => repeat (first | exact (Kd.V_reads' HO426.out).2.2 | (with_reducible refine Kd.C_alloc ?_ _) | (with_reducible refine Kd.C_drewN ?_ _) | (with_reducible refine Kd.C_drew ?_))); (case side4 => exact (Kd.V_reads' HO426.out).2.1); rintro e w32 ⟨v429, rfl, ho0, hb⟩; refine ⟨_, rfl, ?_⟩; have n0_ := Aside0.mk (Kd.V_elder' (by (with_reducible repeat (first | apply Kd.V_alloc | apply Kd.V_drewN | apply Kd.V_drew)); exact HO426.out) (Kd.R_base ho0) hb); have n1_ := Aside0.mk (Kd.R_lower ho0 (below_size (by repeat (first | (with_reducible first | exact HB.out | apply below_alloc | apply pw_below_drewN | apply below_drew1) | exact HB.out)))); have n2_ := Aside0.mk (below_step (by repeat (first | (with_reducible first | exact HB.out | apply below_alloc | apply pw_below_drewN | apply below_drew1) | exact HB.out)) hb); clear HO426; clear HB; have HO426 := n0_; have HO430 := n1_; have HB := n2_; clear n0_ n1_ n2_; (try clear hb); (try clear hb2); (try clear hk); (try clear hi); (try clear ho0); obtain ⟨Ao33, co33, eo33⟩ := Kd.R_slice HO430.out; subst eo33) | ((with_reducible refine gate_callee (f := 17) rfl ?_); refine goesL_ (some 44) rfl rfl Try.func17 (by kernel_rfl) rfl #[.slice Ao33 t427.length co33, .int .i64 (Int.tmod (wrap64 ((wrap64 ((Int.tmod a1 (wrap64 ((wrap64 (1 + (Int.tmod (wrap64 ((Int.tmod a2 100) + 100)) 100))) + 1))) + (wrap64 (1 + (Int.tmod (wrap64 ((Int.tmod a2 100) + 100)) 100))))) + 1)) (wrap64 ((wrap64 (1 + (Int.tmod (wrap64 ((Int.tmod a2 100) + 100)) 100))) + 1))), .int .i64 (wrap64 (1 + (Int.tmod (wrap64 ((Int.tmod a2 100) + 100)) 100)))] rfl (by (try simp only [List.map_toArray, List.map_cons, List.map_nil]); first | done | rfl | (simp only [List.length_drop, List.length_take]; rfl)) ?_; (with_reducible refine (sketch_Quantile.calls k _ _ t427 (Int.tmod (wrap64 ((wrap64 ((Int.tmod a1 (wrap64 ((wrap64 (1 + (Int.tmod (wrap64 ((Int.tmod a2 100) + 100)) 100))) + 1))) + (wrap64 (1 + (Int.tmod (wrap64 ((Int.tmod a2 100) + 100)) 100))))) + 1)) (wrap64 ((wrap64 (1 + (Int.tmod (wrap64 ((Int.tmod a2 100) + 100)) 100))) + 1))) (wrap64 (1 + (Int.tmod (wrap64 ((Int.tmod a2 100) + 100)) 100))) t431 t432 _ ?side1 ?side2 A7.out).mono ?_); (case side1 => repeat (first | exact (Kd.R_reads' HO430.out).2.2 | (with_reducible refine Kd.C_alloc ?_ _) | (with_reducible refine Kd.C_drewN ?_ _) | (with_reducible refine Kd.C_drew ?_))); (case side2 => exact (Kd.R_reads' HO430.out).2.1); rintro e w34 ⟨rfl, hb⟩; refine ⟨_, rfl, ?_⟩; have n0_ := Aside0.mk (Kd.V_below (by (with_reducible repeat (first | apply Kd.V_alloc | apply Kd.V_drewN | apply Kd.V_drew)); exact HO426.out) hb); have n1_ := Aside0.mk (Kd.R_below (by (with_reducible repeat (first | apply Kd.R_alloc | apply Kd.R_drewN | apply Kd.R_drew)); exact HO430.out) hb); have n2_ := Aside0.mk (below_step (by repeat (first | (with_reducible first | exact HB.out | apply below_alloc | apply pw_below_drewN | apply below_drew1) | exact HB.out)) hb); clear HO426; clear HO430; clear HB; have HO426 := n0_; have HO430 := n1_; have HB := n2_; clear n0_ n1_ n2_; (try clear hb); (try clear hb2); (try clear hk); (try clear hi)) | ((with_reducible refine gate_callee (f := 11) rfl ?_); refine goesL_ (some 61) rfl rfl Try.func11 (by kernel_rfl) rfl #[.int .i64 t431] rfl (by (try simp only [List.map_toArray, List.map_cons, List.map_nil]); first | done | rfl | (simp only [List.length_drop, List.length_take]; rfl)) ?_; (with_reducible refine (sketch_Ends.calls t431 t434 t435 t436 _ A28.out).mono ?_); rintro e w35 ⟨rfl, hb⟩; refine ⟨_, rfl, ?_⟩; have n0_ := Aside0.mk (Kd.V_below (by (with_reducible repeat (first | apply Kd.V_alloc | apply Kd.V_drewN | apply Kd.V_drew)); exact HO426.out) hb); have n1_ := Aside0.mk (Kd.R_below (by (with_reducible repeat (first | apply Kd.R_alloc | apply Kd.R_drewN | apply Kd.R_drew)); exact HO430.out) hb); have n2_ := Aside0.mk (below_step (by repeat (first | (with_reducible first | exact HB.out | apply below_alloc | apply pw_below_drewN | apply below_drew1) | exact HB.out)) hb); clear HO426; clear HO430; clear HB; have HO426 := n0_; have HO430 := n1_; have HB := n2_; clear n0_ n1_ n2_; (try clear hb); (try clear hb2); (try clear hk); (try clear hi)))
      (try simp only [Act.put, List.setIfInBounds_toArray, List.set_cons_zero, List.set_cons_succ])
      go_cut [74] (fun v74 wc => ∃ (kq : Nat) (x74_28 : Bool), v74 = .bool x74_28 ∧ Aside0 (headgatelaw29_SketchTells.j0 kq t424 (Int.tmod (wrap64 ((wrap64 ((Int.tmod a1 (wrap64 ((wrap64 (1 + (Int.tmod (wrap64 ((Int.tmod a2 100) + 100)) 100))) + 1))) + (wrap64 (1 + (Int.tmod (wrap64 ((Int.tmod a2 100) + 100)) 100))))) + 1)) (wrap64 ((wrap64 (1 + (Int.tmod (wrap64 ((Int.tmod a2 100) + 100)) 100))) + 1))) (wrap64 (1 + (Int.tmod (wrap64 ((Int.tmod a2 100) + 100)) 100))) t434 t435 x74_28 = some r) ∧ Aside0 (kq ≤ k) ∧ Aside0 (Kd.V (Kd.int .i64) 3 wc w.heap.size (fun _ => True) (.slice Ao31 t424.length co31) t424) ∧ Aside0 (Below w.heap.size w wc))
      case first =>
        have H := HC29.out
        clear HC29
        by_cases c36 : t428 = 0
        · rw [if_pos c36] at H
          have c36b0 : (t428 == 0) = true := beq_iff_eq.mpr c36
          have c36b1 : (t428 != 0) = false := bne_eq_false_iff_eq.mpr c36
          clear c36
          (first | rw [c36b0] | rw [c36b9] | (simp only [i64_w, i32_w]; rw [c36b0]) | skip)
          by_cases c37 : t432 = 0
          · rw [if_pos c37] at H
            have c37b0 : (t432 == 0) = true := beq_iff_eq.mpr c37
            have c37b1 : (t432 != 0) = false := bne_eq_false_iff_eq.mpr c37
            clear c37
            have H' := Aside0.mk H
            clear H
            go_wp2
            go_meet
            case rel => exact ⟨_, ((t436 != 0)), (by first | rfl | (simp; done) | (simp [*]; done)), H', ⟨by first | omega | exact Nat.le_refl _⟩, ⟨by (with_reducible repeat (first | apply Kd.V_alloc | apply Kd.V_drewN | apply Kd.V_drew)); exact Kd.V_mono HO426.out (fun _ hk => trivial)⟩, ⟨by repeat (first | (with_reducible first | exact HB.out | apply below_alloc | apply pw_below_drewN | apply below_drew1) | exact HB.out)⟩⟩
          · rw [if_neg c37] at H
            have c37b0 : (t432 == 0) = false := beq_eq_false_iff_ne.mpr c37
            have c37b1 : (t432 != 0) = true := bne_iff_ne.mpr c37
            have H' := Aside0.mk H
            clear H
            go_wp2
            go_meet
            case rel => exact ⟨_, (true), (by first | rfl | (simp; done) | (simp [*]; done)), H', ⟨by first | omega | exact Nat.le_refl _⟩, ⟨by (with_reducible repeat (first | apply Kd.V_alloc | apply Kd.V_drewN | apply Kd.V_drew)); exact Kd.V_mono HO426.out (fun _ hk => trivial)⟩, ⟨by repeat (first | (with_reducible first | exact HB.out | apply below_alloc | apply pw_below_drewN | apply below_drew1) | exact HB.out)⟩⟩
        · rw [if_neg c36] at H
          have c36b0 : (t428 == 0) = false := beq_eq_false_iff_ne.mpr c36
          have c36b1 : (t428 != 0) = true := bne_iff_ne.mpr c36
          (first | rw [c36b0] | rw [c36b9] | (simp only [i64_w, i32_w]; rw [c36b0]) | skip)
          have H' := Aside0.mk H
          clear H
          go_wp2
          go_meet
          case rel => exact ⟨_, (true), (by first | rfl | (simp; done) | (simp [*]; done)), H', ⟨by first | omega | exact Nat.le_refl _⟩, ⟨by (with_reducible repeat (first | apply Kd.V_alloc | apply Kd.V_drewN | apply Kd.V_drew)); exact Kd.V_mono HO426.out (fun _ hk => trivial)⟩, ⟨by repeat (first | (with_reducible first | exact HB.out | apply below_alloc | apply pw_below_drewN | apply below_drew1) | exact HB.out)⟩⟩
      case rest =>
        clear HC29
        try clear c1
        try clear c2
        try clear p2
        try clear c3
        try clear c5
        try clear c5b0
        try clear c5b1
        try clear p6
        try clear c8
        try clear c8b0
        try clear c8b1
        try clear c8b2
        try clear c9
        try clear c9b0
        try clear c9b1
        try clear c10
        try clear c10b0
        try clear c10b1
        try clear c11
        try clear c17
        try clear c24
        try clear c25
        try clear c36
        try clear c36b0
        try clear c36b1
        try clear c37
        try clear c37b0
        try clear c37b1
        obtain ⟨kq, x74_28, rfl, HA, HJ28, HO_0, HB⟩ := hcut
        cases kq with
        | zero => exact absurd HA.out (by simp [headgatelaw29_SketchTells.j0])
        | succ kj28 =>
          have H := HA.out
          clear HA
          simp only [headgatelaw29_SketchTells.j0] at H
          by_cases c38 : x74_28 = true
          · subst c38
            have H1 : (some false) = some r := by rw [if_pos rfl] at H; exact H
            clear H
            have H := H1
            clear H1
            obtain rfl := Option.some.inj H
            go_wp2
            go_ret
            exact ⟨by first | rfl | (simp [errW_none, errW_some] <;> rfl) | (simp [*, errW_none, errW_some] <;> rfl), by repeat (first | (with_reducible first | exact HB.out | apply below_alloc | apply pw_below_drewN | apply below_drew1) | exact HB.out)⟩
          · replace c38 := Bool.eq_false_iff.mpr c38
            subst c38
            have H1 : ((headgateref29_Rank.f (t424.length : Int) (Int.tmod (wrap64 ((wrap64 ((Int.tmod a1 (wrap64 ((wrap64 (1 + (Int.tmod (wrap64 ((Int.tmod a2 100) + 100)) 100))) + 1))) + (wrap64 (1 + (Int.tmod (wrap64 ((Int.tmod a2 100) + 100)) 100))))) + 1)) (wrap64 ((wrap64 (1 + (Int.tmod (wrap64 ((Int.tmod a2 100) + 100)) 100))) + 1))) (wrap64 (1 + (Int.tmod (wrap64 ((Int.tmod a2 100) + 100)) 100)))).bind fun t437 => (headgatelaw29_SketchTells.l0 kj28 t424 t434 t435 t437 0 0 0)) = some r := by rw [if_neg (show ¬ (false = true) by decide)] at H; exact H
            clear H
            have H := H1
            clear H1
            replace H := Option.bind_eq_some_iff.mp H
            obtain ⟨t437, A390, H⟩ := H
            replace H : (headgatelaw29_SketchTells.l0 kj28 t424 t434 t435 t437 0 0 0) = some r := H
            have A39 := Aside0.mk A390
            clear A390
            have H' := Aside0.mk H
            clear H
            go_wp2_with (first | ((with_reducible refine gate_callee (f := 33) rfl ?_); refine goesL_ (some 79) rfl rfl Try.func33 (by kernel_rfl) rfl #[.int .i64 (t424.length : Int), .int .i64 (Int.tmod (wrap64 ((wrap64 ((Int.tmod a1 (wrap64 ((wrap64 (1 + (Int.tmod (wrap64 ((Int.tmod a2 100) + 100)) 100))) + 1))) + (wrap64 (1 + (Int.tmod (wrap64 ((Int.tmod a2 100) + 100)) 100))))) + 1)) (wrap64 ((wrap64 (1 + (Int.tmod (wrap64 ((Int.tmod a2 100) + 100)) 100))) + 1))), .int .i64 (wrap64 (1 + (Int.tmod (wrap64 ((Int.tmod a2 100) + 100)) 100)))] rfl (by (try simp only [List.map_toArray, List.map_cons, List.map_nil]); first | done | rfl | (simp only [List.length_drop, List.length_take]; rfl)) ?_; (with_reducible refine (headgateref29_Rank.calls (t424.length : Int) (Int.tmod (wrap64 ((wrap64 ((Int.tmod a1 (wrap64 ((wrap64 (1 + (Int.tmod (wrap64 ((Int.tmod a2 100) + 100)) 100))) + 1))) + (wrap64 (1 + (Int.tmod (wrap64 ((Int.tmod a2 100) + 100)) 100))))) + 1)) (wrap64 ((wrap64 (1 + (Int.tmod (wrap64 ((Int.tmod a2 100) + 100)) 100))) + 1))) (wrap64 (1 + (Int.tmod (wrap64 ((Int.tmod a2 100) + 100)) 100))) t437 _ A39.out).mono ?_); rintro e w' ⟨rfl, ⟨nd, rfl⟩⟩; refine ⟨_, rfl, ?_⟩))
            go_loopg [15, 16, 17] kj28 (fun kq v15 v16 v17 w' => ∃ (x15_2 : Int) (x16_2 : Int) (x17_2 : Int), v15 = .int .i64 x15_2 ∧ v16 = .int .i64 x16_2 ∧ v17 = .int .i64 x17_2 ∧ Aside0 (headgatelaw29_SketchTells.l0 kq t424 t434 t435 t437 x15_2 x16_2 x17_2 = some r) ∧ Aside0 (kq ≤ kj28) ∧ Aside0 (Kd.V (Kd.int .i64) 3 w' w.heap.size (fun _ => True) (.slice Ao31 t424.length co31) t424) ∧ Aside0 (Below w.heap.size w w'))
            case atStart => exact ⟨(0), (0), (0), (by first | rfl | (simp; done) | (simp [*]; done)), (by first | rfl | (simp; done) | (simp [*]; done)), (by first | rfl | (simp; done) | (simp [*]; done)), H', ⟨Nat.le_refl _⟩, ⟨by (with_reducible repeat (first | apply Kd.V_alloc | apply Kd.V_drewN | apply Kd.V_drew)); exact HO_0.out⟩, ⟨by repeat (first | (with_reducible first | exact HB.out | apply below_alloc | apply pw_below_drewN | apply below_drew1) | exact HB.out)⟩⟩
            case round =>
              clear H'
              try clear c1
              try clear c2
              try clear p2
              try clear c3
              try clear c5
              try clear c5b0
              try clear c5b1
              try clear p6
              try clear c8
              try clear c8b0
              try clear c8b1
              try clear c8b2
              try clear c9
              try clear c9b0
              try clear c9b1
              try clear c10
              try clear c10b0
              try clear c10b1
              try clear c11
              try clear c17
              try clear c24
              try clear c25
              try clear c33
              try clear c36
              try clear c36b0
              try clear c36b1
              try clear c37
              try clear c37b0
              try clear c37b1
              try clear c38
              try clear p2
              try clear p6
              obtain ⟨x15_2, x16_2, x17_2, rfl, rfl, rfl, HA, HK2, HO_0, HB⟩ := hrel
              cases gk with
              | zero => exact absurd HA.out (by simp [headgatelaw29_SketchTells.l0])
              | succ k2 =>
                have H := HA.out
                clear HA
                simp only [headgatelaw29_SketchTells.l0] at H
                by_cases c40 : x17_2 < (t424.length : Int)
                · rw [if_pos c40] at H
                  have c40b0 : decide (x17_2 < (t424.length : Int)) = true := decide_eq_true c40
                  clear c40
                  by_cases c41 : 0 ≤ x17_2
                  · rw [if_pos c41] at H
                    have c41b0 : decide (0 ≤ x17_2) = true := decide_eq_true c41
                    clear c41
                    by_cases c42 : (rd t424 x17_2) ≤ t435
                    · rw [if_pos c42] at H
                      have c42b0 : decide ((rd t424 x17_2) ≤ t435) = true := decide_eq_true c42
                      clear c42
                      by_cases c43 : (rd t424 x17_2) < t434
                      · rw [if_pos c43] at H
                        have c43b0 : decide ((rd t424 x17_2) < t434) = true := decide_eq_true c43
                        clear c43
                        have H' := Aside0.mk H
                        clear H
                        have p439 : 0 ≤ (x17_2 : Int) := of_decide_eq_true (by first | (with_reducible assumption) | assumption)
                        have q439 : x17_2 < (t424.length : Int) := of_decide_eq_true (by first | (with_reducible assumption) | assumption)
                        obtain ⟨ad439, e439, hx439_0⟩ := Kd.at_int (Kd.V_reads' HO_0.out).2.2 x17_2 p439 q439
                        cases e439
                        replace p439 := eq_true p439
                        replace q439 := eq_true q439
                        have p440 : 0 ≤ (x17_2 : Int) := of_decide_eq_true (by first | (with_reducible assumption) | assumption)
                        have q440 : x17_2 < (t424.length : Int) := of_decide_eq_true (by first | (with_reducible assumption) | assumption)
                        obtain ⟨ad440, e440, hx440_0⟩ := Kd.at_int (Kd.V_reads' HO_0.out).2.2 x17_2 p440 q440
                        obtain rfl : ad439 = ad440 := (by injection e440)
                        replace p440 := eq_true p440
                        replace q440 := eq_true q440
                        go_wp2
                        go_roundg k2
                        case measure => have := HJ28.out; have := HK2.out; omega
                        case rel => exact ⟨(wrap64 (x15_2 + 1)), (wrap64 (x16_2 + 1)), (wrap64 (x17_2 + 1)), (by first | rfl | (simp; done) | (simp [*]; done)), (by first | rfl | (simp; done) | (simp [*]; done)), (by first | rfl | (simp; done) | (simp [*]; done)), H', ⟨by have := HJ28.out; have := HK2.out; omega⟩, ⟨by (with_reducible repeat (first | apply Kd.V_alloc | apply Kd.V_drewN | apply Kd.V_drew)); exact HO_0.out⟩, ⟨by repeat (first | (with_reducible first | exact HB.out | apply below_alloc | apply pw_below_drewN | apply below_drew1) | exact HB.out)⟩⟩
                      · rw [if_neg c43] at H
                        have c43b0 : decide ((rd t424 x17_2) < t434) = false := decide_eq_false c43
                        clear c43
                        have H' := Aside0.mk H
                        clear H
                        have p439 : 0 ≤ (x17_2 : Int) := of_decide_eq_true (by first | (with_reducible assumption) | assumption)
                        have q439 : x17_2 < (t424.length : Int) := of_decide_eq_true (by first | (with_reducible assumption) | assumption)
                        obtain ⟨ad439, e439, hx439_0⟩ := Kd.at_int (Kd.V_reads' HO_0.out).2.2 x17_2 p439 q439
                        cases e439
                        replace p439 := eq_true p439
                        replace q439 := eq_true q439
                        have p440 : 0 ≤ (x17_2 : Int) := of_decide_eq_true (by first | (with_reducible assumption) | assumption)
                        have q440 : x17_2 < (t424.length : Int) := of_decide_eq_true (by first | (with_reducible assumption) | assumption)
                        obtain ⟨ad440, e440, hx440_0⟩ := Kd.at_int (Kd.V_reads' HO_0.out).2.2 x17_2 p440 q440
                        obtain rfl : ad439 = ad440 := (by injection e440)
                        replace p440 := eq_true p440
                        replace q440 := eq_true q440
                        go_wp2
                        go_roundg k2
                        case measure => have := HJ28.out; have := HK2.out; omega
                        case rel => exact ⟨(wrap64 (x15_2 + 1)), (x16_2), (wrap64 (x17_2 + 1)), (by first | rfl | (simp; done) | (simp [*]; done)), (by first | rfl | (simp; done) | (simp [*]; done)), (by first | rfl | (simp; done) | (simp [*]; done)), H', ⟨by have := HJ28.out; have := HK2.out; omega⟩, ⟨by (with_reducible repeat (first | apply Kd.V_alloc | apply Kd.V_drewN | apply Kd.V_drew)); exact HO_0.out⟩, ⟨by repeat (first | (with_reducible first | exact HB.out | apply below_alloc | apply pw_below_drewN | apply below_drew1) | exact HB.out)⟩⟩
                    · rw [if_neg c42] at H
                      have c42b0 : decide ((rd t424 x17_2) ≤ t435) = false := decide_eq_false c42
                      clear c42
                      by_cases c44 : (rd t424 x17_2) < t434
                      · rw [if_pos c44] at H
                        have c44b0 : decide ((rd t424 x17_2) < t434) = true := decide_eq_true c44
                        clear c44
                        have H' := Aside0.mk H
                        clear H
                        have p439 : 0 ≤ (x17_2 : Int) := of_decide_eq_true (by first | (with_reducible assumption) | assumption)
                        have q439 : x17_2 < (t424.length : Int) := of_decide_eq_true (by first | (with_reducible assumption) | assumption)
                        obtain ⟨ad439, e439, hx439_0⟩ := Kd.at_int (Kd.V_reads' HO_0.out).2.2 x17_2 p439 q439
                        cases e439
                        replace p439 := eq_true p439
                        replace q439 := eq_true q439
                        have p441 : 0 ≤ (x17_2 : Int) := of_decide_eq_true (by first | (with_reducible assumption) | assumption)
                        have q441 : x17_2 < (t424.length : Int) := of_decide_eq_true (by first | (with_reducible assumption) | assumption)
                        obtain ⟨ad441, e441, hx441_0⟩ := Kd.at_int (Kd.V_reads' HO_0.out).2.2 x17_2 p441 q441
                        obtain rfl : ad439 = ad441 := (by injection e441)
                        replace p441 := eq_true p441
                        replace q441 := eq_true q441
                        go_wp2
                        go_roundg k2
                        case measure => have := HJ28.out; have := HK2.out; omega
                        case rel => exact ⟨(x15_2), (wrap64 (x16_2 + 1)), (wrap64 (x17_2 + 1)), (by first | rfl | (simp; done) | (simp [*]; done)), (by first | rfl | (simp; done) | (simp [*]; done)), (by first | rfl | (simp; done) | (simp [*]; done)), H', ⟨by have := HJ28.out; have := HK2.out; omega⟩, ⟨by (with_reducible repeat (first | apply Kd.V_alloc | apply Kd.V_drewN | apply Kd.V_drew)); exact HO_0.out⟩, ⟨by repeat (first | (with_reducible first | exact HB.out | apply below_alloc | apply pw_below_drewN | apply below_drew1) | exact HB.out)⟩⟩
                      · rw [if_neg c44] at H
                        have c44b0 : decide ((rd t424 x17_2) < t434) = false := decide_eq_false c44
                        clear c44
                        have H' := Aside0.mk H
                        clear H
                        have p439 : 0 ≤ (x17_2 : Int) := of_decide_eq_true (by first | (with_reducible assumption) | assumption)
                        have q439 : x17_2 < (t424.length : Int) := of_decide_eq_true (by first | (with_reducible assumption) | assumption)
                        obtain ⟨ad439, e439, hx439_0⟩ := Kd.at_int (Kd.V_reads' HO_0.out).2.2 x17_2 p439 q439
                        cases e439
                        replace p439 := eq_true p439
                        replace q439 := eq_true q439
                        have p441 : 0 ≤ (x17_2 : Int) := of_decide_eq_true (by first | (with_reducible assumption) | assumption)
                        have q441 : x17_2 < (t424.length : Int) := of_decide_eq_true (by first | (with_reducible assumption) | assumption)
                        obtain ⟨ad441, e441, hx441_0⟩ := Kd.at_int (Kd.V_reads' HO_0.out).2.2 x17_2 p441 q441
                        obtain rfl : ad439 = ad441 := (by injection e441)
                        replace p441 := eq_true p441
                        replace q441 := eq_true q441
                        go_wp2
                        go_roundg k2
                        case measure => have := HJ28.out; have := HK2.out; omega
                        case rel => exact ⟨(x15_2), (x16_2), (wrap64 (x17_2 + 1)), (by first | rfl | (simp; done) | (simp [*]; done)), (by first | rfl | (simp; done) | (simp [*]; done)), (by first | rfl | (simp; done) | (simp [*]; done)), H', ⟨by have := HJ28.out; have := HK2.out; omega⟩, ⟨by (with_reducible repeat (first | apply Kd.V_alloc | apply Kd.V_drewN | apply Kd.V_drew)); exact HO_0.out⟩, ⟨by repeat (first | (with_reducible first | exact HB.out | apply below_alloc | apply pw_below_drewN | apply below_drew1) | exact HB.out)⟩⟩
                  · rw [if_neg c41] at H
                    exact absurd H (by simp)
                · rw [if_neg c40] at H
                  have c40b0 : decide (x17_2 < (t424.length : Int)) = false := decide_eq_false c40
                  clear c40
                  by_cases c45 : x15_2 ≥ t437
                  · rw [if_pos c45] at H
                    have c45b0 : decide (t437 ≤ x15_2) = true := decide_eq_true c45
                    clear c45
                    by_cases c46 : x16_2 < t437
                    · rw [if_pos c46] at H
                      have c46b0 : decide (x16_2 < t437) = true := decide_eq_true c46
                      clear c46
                      replace H := Option.bind_eq_some_iff.mp H
                      obtain ⟨t438, A470, H⟩ := H
                      replace H : (some t438) = some r := H
                      have A47 := Aside0.mk A470
                      clear A470
                      obtain rfl := Option.some.inj H
                      go_wp2_with (first | (go_at_call 15; (with_reducible refine (headgatelaw29_awake.calls  t438 _ A47.out).mono ?_); rintro e w48 ⟨rfl, hb⟩; have n0_ := Aside0.mk (Kd.V_below (by (with_reducible repeat (first | apply Kd.V_alloc | apply Kd.V_drewN | apply Kd.V_drew)); exact HO_0.out) hb); have n1_ := Aside0.mk (below_step (by repeat (first | (with_reducible first | exact HB.out | apply below_alloc | apply pw_below_drewN | apply below_drew1) | exact HB.out)) hb); clear HO_0; clear HB; have HO_0 := n0_; have HB := n1_; clear n0_ n1_; (try clear hb); (try clear hb2); (try clear hk); (try clear hi)))
                      go_ret
                      exact ⟨by first | rfl | (simp [errW_none, errW_some] <;> rfl) | (simp [*, errW_none, errW_some] <;> rfl), by repeat (first | (with_reducible first | exact HB.out | apply below_alloc | apply pw_below_drewN | apply below_drew1) | exact HB.out)⟩
                    · rw [if_neg c46] at H
                      have c46b0 : decide (x16_2 < t437) = false := decide_eq_false c46
                      clear c46
                      obtain rfl := Option.some.inj H
                      go_wp2
                      go_ret
                      exact ⟨by first | rfl | (simp [errW_none, errW_some] <;> rfl) | (simp [*, errW_none, errW_some] <;> rfl), by repeat (first | (with_reducible first | exact HB.out | apply below_alloc | apply pw_below_drewN | apply below_drew1) | exact HB.out)⟩
                  · rw [if_neg c45] at H
                    have c45b0 : decide (t437 ≤ x15_2) = false := decide_eq_false c45
                    clear c45
                    obtain rfl := Option.some.inj H
                    go_wp2
                    go_ret
                    exact ⟨by first | rfl | (simp [errW_none, errW_some] <;> rfl) | (simp [*, errW_none, errW_some] <;> rfl), by repeat (first | (with_reducible first | exact HB.out | apply below_alloc | apply pw_below_drewN | apply below_drew1) | exact HB.out)⟩

/-- THE ONE PURE STATEMENT of headgatelaw29_SketchTells: yours. -/
def headgatelaw29_SketchTells.Pure : Prop := ∀ (l0 : List Int) (a1 : Int) (a2 : Int), l0.length ≤ maxLen → l0.length * 8 ≤ 140737488351232 → (∀ x ∈ l0, (Lit.int .i64 x).wf = true) → (Lit.int .i64 a1).wf = true → (Lit.int .i64 a2).wf = true → ∃ k, headgatelaw29_SketchTells.f k l0 a1 a2 = some true
theorem headgatelaw29_SketchTells.walk (P : headgatelaw29_SketchTells.Pure) (a0 : Option Addr) (len0 cap0 : Nat) (z0 : List Int) (a1 : Int) (a2 : Int) (w : World) (w0 : (a0 = none ∧ len0 = 0 ∧ cap0 = 0 ∧ z0 = []) ∨ ∃ x, a0 = some x ∧ len0 ≤ cap0 ∧ cap0 ≤ maxLen ∧ z0.length = cap0 ∧ (∀ i, i < z0.length → w.cell? (x.add i) = some (.int .i64 (z0.getD i 0))) ∧ ∀ n ∈ z0, (Lit.int .i64 n).wf = true) (y0 : len0 * 8 ≤ 140737488351232) (w1 : (Lit.int .i64 a1).wf = true) (w2 : (Lit.int .i64 a2).wf = true) :
    Calls Try.prog 10 #[.slice a0 len0 cap0, .int .i64 a1, .int .i64 a2] w fun e w' => e = .returned (.bool true) ∧ Below w.heap.size w w' := by
  obtain ⟨l0, rfl, hr0, hm0, hw0, hc0⟩ := ReadsInt.ofRowC w0
  obtain ⟨k, h⟩ := P l0 a1 a2 hm0 y0 hw0 w1 w2
  refine (headgatelaw29_SketchTells.calls k _ _ l0 a1 a2 true w (Kd.C_of_reads (d := (0 : Int)) (h1 := fun _ => rfl) hr0) hc0 h).mono ?_
  rintro e w' ⟨rfl, hd⟩
  exact ⟨rfl, hd⟩

end Go.Proofs.Ytgijangnoekbjaa.P
