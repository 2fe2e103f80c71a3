-- Written by wip/mk.py of this repo: the kit's print program, with contracts of our own among its functions.
import Derived.Test.YtpffggpedogifaaPx0
import Derived.Test.YtpffggpedogifaaPx1
import Derived.Test.YtpffggpedogifaaPx2
import Derived.Test.YtpffggpedogifaaPx7
import Derived.Test.YtpffggpedogifaaPx9
-- squeezed
namespace Go.Proofs.Ytpffggpedogifaa.P
open Go.RowKit Go.Proofs.YtpffggpedogifaaW.PrintWords Go.Proofs.YtpffggpedogifaaW.PrintLast Go.Proofs.YtpffggpedogifaaW.PrintMore
attribute [local go_sem] max2_int min2_int max_two min_two max_three min_three max_four min_four   -- for this text's walks alone
set_option linter.unusedVariables false
set_option linter.unusedSimpArgs false

attribute [local go_sem high] eqA22 eqA24
/-! ### headgatelaw15_FoldCounts: function 7 -/
mutual
def headgatelaw15_FoldCounts.l0 : Nat → List Int → Bool → Bool → Int → Int → Int → Int → Int → Int → Int → Int → Int → Int → Int → Int → Int → Int → Int → Int → Int → Int → Int → Option (Bool)
 | 0, _, _, _, _, _, _, _, _, _, _, _, _, _, _, _, _, _, _, _, _, _, _ => none
 | k + 1, x0, x6, x7, x8, x345000, x345001, x345002, x345003, x345004, x345005, x345006, x345007, x345008, x345009, x346000, x346001, x346002, x346003, x347000, x347001, x347002, x347003 => if x8 < (x0.length : Int) then (if 0 ≤ x8 then (if (Go.bits .and .i64 (rd x0 x8) 3) = 0 then (headgatelaw15_FoldCounts.j1 k x0 x6 x7 x8 (rd x0 x8) x345000 x345001 x345002 x345003 x345004 x345005 x345006 x345007 x345008 x345009 (wrap64 (x346000 + 1)) x346001 x346002 x346003 x347000 x347001 x347002 x347003) else (if (Go.bits .and .i64 (rd x0 x8) 3) = 1 then (headgatelaw15_FoldCounts.j1 k x0 x6 x7 x8 (rd x0 x8) x345000 x345001 x345002 x345003 x345004 x345005 x345006 x345007 x345008 x345009 x346000 (wrap64 (x346001 + 1)) x346002 x346003 x347000 x347001 x347002 x347003) else (if (Go.bits .and .i64 (rd x0 x8) 3) = 2 then (headgatelaw15_FoldCounts.j1 k x0 x6 x7 x8 (rd x0 x8) x345000 x345001 x345002 x345003 x345004 x345005 x345006 x345007 x345008 x345009 x346000 x346001 (wrap64 (x346002 + 1)) x346003 x347000 x347001 x347002 x347003) else (if (Go.bits .and .i64 (rd x0 x8) 3) = 3 then (headgatelaw15_FoldCounts.j1 k x0 x6 x7 x8 (rd x0 x8) x345000 x345001 x345002 x345003 x345004 x345005 x345006 x345007 x345008 x345009 x346000 x346001 x346002 (wrap64 (x346003 + 1)) x347000 x347001 x347002 x347003) else (none))))) else (none)) else (if (x0.length : Int) = 0 then (if (x345000 == 0 && (x345001 == 0 && (x345002 == 0 && (x345003 == 0 && ((x345004 == 0 && (x345005 == 0 && (x345006 == 0 && (x345007 == 0)))) && (x345008 == 0 && (x345009 == 0))))))) = true then ((headgatelaw15_awake.f k).bind fun t348 => (some t348)) else (some false)) else (if x345000 = (x0.length : Int) then (if (x345004 == x347000 && (x345005 == x347001 && (x345006 == x347002 && (x345007 == x347003)))) = true then (if x6 = true then (if x7 = true then (if x345008 = (wrap64 (x346000 - x346002)) then (if x345009 = (wrap64 (x346001 - x346003)) then ((headgatelaw15_awake.f k).bind fun t349 => (some t349)) else (some false)) else (some false)) else (some false)) else (some false)) else (some false)) else (some false)))
def headgatelaw15_FoldCounts.j1 : Nat → List Int → Bool → Bool → Int → Int → Int → Int → Int → Int → Int → Int → Int → Int → Int → Int → Int → Int → Int → Int → Int → Int → Int → Int → Option (Bool)
 | 0, _, _, _, _, _, _, _, _, _, _, _, _, _, _, _, _, _, _, _, _, _, _, _ => none
 | k + 1, x0, x6, x7, x8, x9, x345000, x345001, x345002, x345003, x345004, x345005, x345006, x345007, x345008, x345009, x346000, x346001, x346002, x346003, x347000, x347001, x347002, x347003 => if x9 < 0 then (if x6 = true then (if x7 = true then (if x9 < x345002 then (some false) else (if x9 > x345003 then (some false) else (headgatelaw15_FoldCounts.l0 k x0 true true (wrap64 (x8 + 1)) x345000 x345001 x345002 x345003 x345004 x345005 x345006 x345007 x345008 x345009 x346000 x346001 x346002 x346003 (wrap64 (x347000 + 1)) x347001 x347002 x347003))) else (if x9 < x345002 then (some false) else (if x9 > x345003 then (some false) else (headgatelaw15_FoldCounts.l0 k x0 true (x9 == x345003) (wrap64 (x8 + 1)) x345000 x345001 x345002 x345003 x345004 x345005 x345006 x345007 x345008 x345009 x346000 x346001 x346002 x346003 (wrap64 (x347000 + 1)) x347001 x347002 x347003)))) else (if x7 = true then (if x9 < x345002 then (some false) else (if x9 > x345003 then (some false) else (headgatelaw15_FoldCounts.l0 k x0 (x9 == x345002) true (wrap64 (x8 + 1)) x345000 x345001 x345002 x345003 x345004 x345005 x345006 x345007 x345008 x345009 x346000 x346001 x346002 x346003 (wrap64 (x347000 + 1)) x347001 x347002 x347003))) else (if x9 < x345002 then (some false) else (if x9 > x345003 then (some false) else (headgatelaw15_FoldCounts.l0 k x0 (x9 == x345002) (x9 == x345003) (wrap64 (x8 + 1)) x345000 x345001 x345002 x345003 x345004 x345005 x345006 x345007 x345008 x345009 x346000 x346001 x346002 x346003 (wrap64 (x347000 + 1)) x347001 x347002 x347003))))) else (if x9 < 10 then (if x6 = true then (if x7 = true then (if x9 < x345002 then (some false) else (if x9 > x345003 then (some false) else (headgatelaw15_FoldCounts.l0 k x0 true true (wrap64 (x8 + 1)) x345000 x345001 x345002 x345003 x345004 x345005 x345006 x345007 x345008 x345009 x346000 x346001 x346002 x346003 x347000 (wrap64 (x347001 + 1)) x347002 x347003))) else (if x9 < x345002 then (some false) else (if x9 > x345003 then (some false) else (headgatelaw15_FoldCounts.l0 k x0 true (x9 == x345003) (wrap64 (x8 + 1)) x345000 x345001 x345002 x345003 x345004 x345005 x345006 x345007 x345008 x345009 x346000 x346001 x346002 x346003 x347000 (wrap64 (x347001 + 1)) x347002 x347003)))) else (if x7 = true then (if x9 < x345002 then (some false) else (if x9 > x345003 then (some false) else (headgatelaw15_FoldCounts.l0 k x0 (x9 == x345002) true (wrap64 (x8 + 1)) x345000 x345001 x345002 x345003 x345004 x345005 x345006 x345007 x345008 x345009 x346000 x346001 x346002 x346003 x347000 (wrap64 (x347001 + 1)) x347002 x347003))) else (if x9 < x345002 then (some false) else (if x9 > x345003 then (some false) else (headgatelaw15_FoldCounts.l0 k x0 (x9 == x345002) (x9 == x345003) (wrap64 (x8 + 1)) x345000 x345001 x345002 x345003 x345004 x345005 x345006 x345007 x345008 x345009 x346000 x346001 x346002 x346003 x347000 (wrap64 (x347001 + 1)) x347002 x347003))))) else (if x9 < 100 then (if x6 = true then (if x7 = true then (if x9 < x345002 then (some false) else (if x9 > x345003 then (some false) else (headgatelaw15_FoldCounts.l0 k x0 true true (wrap64 (x8 + 1)) x345000 x345001 x345002 x345003 x345004 x345005 x345006 x345007 x345008 x345009 x346000 x346001 x346002 x346003 x347000 x347001 (wrap64 (x347002 + 1)) x347003))) else (if x9 < x345002 then (some false) else (if x9 > x345003 then (some false) else (headgatelaw15_FoldCounts.l0 k x0 true (x9 == x345003) (wrap64 (x8 + 1)) x345000 x345001 x345002 x345003 x345004 x345005 x345006 x345007 x345008 x345009 x346000 x346001 x346002 x346003 x347000 x347001 (wrap64 (x347002 + 1)) x347003)))) else (if x7 = true then (if x9 < x345002 then (some false) else (if x9 > x345003 then (some false) else (headgatelaw15_FoldCounts.l0 k x0 (x9 == x345002) true (wrap64 (x8 + 1)) x345000 x345001 x345002 x345003 x345004 x345005 x345006 x345007 x345008 x345009 x346000 x346001 x346002 x346003 x347000 x347001 (wrap64 (x347002 + 1)) x347003))) else (if x9 < x345002 then (some false) else (if x9 > x345003 then (some false) else (headgatelaw15_FoldCounts.l0 k x0 (x9 == x345002) (x9 == x345003) (wrap64 (x8 + 1)) x345000 x345001 x345002 x345003 x345004 x345005 x345006 x345007 x345008 x345009 x346000 x346001 x346002 x346003 x347000 x347001 (wrap64 (x347002 + 1)) x347003))))) else (if x6 = true then (if x7 = true then (if x9 < x345002 then (some false) else (if x9 > x345003 then (some false) else (headgatelaw15_FoldCounts.l0 k x0 true true (wrap64 (x8 + 1)) x345000 x345001 x345002 x345003 x345004 x345005 x345006 x345007 x345008 x345009 x346000 x346001 x346002 x346003 x347000 x347001 x347002 (wrap64 (x347003 + 1))))) else (if x9 < x345002 then (some false) else (if x9 > x345003 then (some false) else (headgatelaw15_FoldCounts.l0 k x0 true (x9 == x345003) (wrap64 (x8 + 1)) x345000 x345001 x345002 x345003 x345004 x345005 x345006 x345007 x345008 x345009 x346000 x346001 x346002 x346003 x347000 x347001 x347002 (wrap64 (x347003 + 1)))))) else (if x7 = true then (if x9 < x345002 then (some false) else (if x9 > x345003 then (some false) else (headgatelaw15_FoldCounts.l0 k x0 (x9 == x345002) true (wrap64 (x8 + 1)) x345000 x345001 x345002 x345003 x345004 x345005 x345006 x345007 x345008 x345009 x346000 x346001 x346002 x346003 x347000 x347001 x347002 (wrap64 (x347003 + 1))))) else (if x9 < x345002 then (some false) else (if x9 > x345003 then (some false) else (headgatelaw15_FoldCounts.l0 k x0 (x9 == x345002) (x9 == x345003) (wrap64 (x8 + 1)) x345000 x345001 x345002 x345003 x345004 x345005 x345006 x345007 x345008 x345009 x346000 x346001 x346002 x346003 x347000 x347001 x347002 (wrap64 (x347003 + 1)))))))))
end
def headgatelaw15_FoldCounts.f (k : Nat) (l0 : List Int) : Option (Bool) := (headgatelaw15_some.f l0).bind fun t331 => ((fold_All.f k t331).bind fun bt334 => (headgatelaw15_FoldCounts.l0 k t331 false false 0 bt334.1 bt334.2.1 bt334.2.2.1 bt334.2.2.2.1 bt334.2.2.2.2.1 bt334.2.2.2.2.2.1 bt334.2.2.2.2.2.2.1 bt334.2.2.2.2.2.2.2.1 bt334.2.2.2.2.2.2.2.2.1 bt334.2.2.2.2.2.2.2.2.2 0 0 0 0 0 0 0 0))
theorem headgatelaw15_FoldCounts.mono_l : ∀ k, (∀ y0 y1 y2 y3 y4 y5 y6 y7 y8 y9 y10 y11 y12 y13 y14 y15 y16 y17 y18 y19 y20 y21, LeO (headgatelaw15_FoldCounts.l0 k y0 y1 y2 y3 y4 y5 y6 y7 y8 y9 y10 y11 y12 y13 y14 y15 y16 y17 y18 y19 y20 y21) (headgatelaw15_FoldCounts.l0 (k + 1) y0 y1 y2 y3 y4 y5 y6 y7 y8 y9 y10 y11 y12 y13 y14 y15 y16 y17 y18 y19 y20 y21)) ∧ (∀ y0 y1 y2 y3 y4 y5 y6 y7 y8 y9 y10 y11 y12 y13 y14 y15 y16 y17 y18 y19 y20 y21 y22, LeO (headgatelaw15_FoldCounts.j1 k y0 y1 y2 y3 y4 y5 y6 y7 y8 y9 y10 y11 y12 y13 y14 y15 y16 y17 y18 y19 y20 y21 y22) (headgatelaw15_FoldCounts.j1 (k + 1) y0 y1 y2 y3 y4 y5 y6 y7 y8 y9 y10 y11 y12 y13 y14 y15 y16 y17 y18 y19 y20 y21 y22))
 | 0 => ⟨fun _ _ _ _ _ _ _ _ _ _ _ _ _ _ _ _ _ _ _ _ _ _ r h => by simp [headgatelaw15_FoldCounts.l0] at h, fun _ _ _ _ _ _ _ _ _ _ _ _ _ _ _ _ _ _ _ _ _ _ _ r h => by simp [headgatelaw15_FoldCounts.j1] at h⟩
 | k + 1 => by
  obtain ⟨ih0, ih1⟩ := headgatelaw15_FoldCounts.mono_l k
  refine ⟨?_, ?_⟩
  ·intro y0 y1 y2 y3 y4 y5 y6 y7 y8 y9 y10 y11 y12 y13 y14 y15 y16 y17 y18 y19 y20 y21
   unfold headgatelaw15_FoldCounts.l0
   repeat' first
   | (with_reducible exact ih0 _ _ _ _ _ _ _ _ _ _ _ _ _ _ _ _ _ _ _ _ _ _)
   | (with_reducible exact ih1 _ _ _ _ _ _ _ _ _ _ _ _ _ _ _ _ _ _ _ _ _ _ _)
   | (with_reducible exact fold_All.mono _ _)
   | (with_reducible exact headgatelaw15_awake.mono _)
   | (with_reducible exact LeO.refl _)
   | (with_reducible exact LeO.none _)
   | (with_reducible refine LeO.ite ?_ ?_)
   | (with_reducible refine LeO.bind ?_ (fun _ => ?_))
   | exact ih0 _ _ _ _ _ _ _ _ _ _ _ _ _ _ _ _ _ _ _ _ _ _
   | exact ih1 _ _ _ _ _ _ _ _ _ _ _ _ _ _ _ _ _ _ _ _ _ _ _
   | exact fold_All.mono _ _
   | exact headgatelaw15_awake.mono _
   | exact LeO.none _
   | refine LeO.ite ?_ ?_
   | refine LeO.bind ?_ (fun _ => ?_)
  ·intro y0 y1 y2 y3 y4 y5 y6 y7 y8 y9 y10 y11 y12 y13 y14 y15 y16 y17 y18 y19 y20 y21 y22
   unfold headgatelaw15_FoldCounts.j1
   repeat' first
   | (with_reducible exact ih0 _ _ _ _ _ _ _ _ _ _ _ _ _ _ _ _ _ _ _ _ _ _)
   | (with_reducible exact ih1 _ _ _ _ _ _ _ _ _ _ _ _ _ _ _ _ _ _ _ _ _ _ _)
   | (with_reducible exact fold_All.mono _ _)
   | (with_reducible exact headgatelaw15_awake.mono _)
   | (with_reducible exact LeO.refl _)
   | (with_reducible exact LeO.none _)
   | (with_reducible refine LeO.ite ?_ ?_)
   | (with_reducible refine LeO.bind ?_ (fun _ => ?_))
   | exact ih0 _ _ _ _ _ _ _ _ _ _ _ _ _ _ _ _ _ _ _ _ _ _
   | exact ih1 _ _ _ _ _ _ _ _ _ _ _ _ _ _ _ _ _ _ _ _ _ _ _
   | exact fold_All.mono _ _
   | exact headgatelaw15_awake.mono _
   | exact LeO.none _
   | refine LeO.ite ?_ ?_
   | refine LeO.bind ?_ (fun _ => ?_)
theorem headgatelaw15_FoldCounts.mono : ∀ a0 k, LeO (headgatelaw15_FoldCounts.f k a0) (headgatelaw15_FoldCounts.f (k + 1) a0) := by
 intro a0 k
 obtain ⟨ih0, ih1⟩ := headgatelaw15_FoldCounts.mono_l k
 unfold headgatelaw15_FoldCounts.f
 repeat' first
   | (with_reducible exact ih0 _ _ _ _ _ _ _ _ _ _ _ _ _ _ _ _ _ _ _ _ _ _)
   | (with_reducible exact ih1 _ _ _ _ _ _ _ _ _ _ _ _ _ _ _ _ _ _ _ _ _ _ _)
   | (with_reducible exact fold_All.mono _ _)
   | (with_reducible exact headgatelaw15_awake.mono _)
   | (with_reducible exact LeO.refl _)
   | (with_reducible exact LeO.none _)
   | (with_reducible refine LeO.ite ?_ ?_)
   | (with_reducible refine LeO.bind ?_ (fun _ => ?_))
   | exact ih0 _ _ _ _ _ _ _ _ _ _ _ _ _ _ _ _ _ _ _ _ _ _
   | exact ih1 _ _ _ _ _ _ _ _ _ _ _ _ _ _ _ _ _ _ _ _ _ _ _
   | exact fold_All.mono _ _
   | exact headgatelaw15_awake.mono _
   | exact LeO.none _
   | refine LeO.ite ?_ ?_
   | refine LeO.bind ?_ (fun _ => ?_)
set_option maxHeartbeats 8000000 in
set_option maxRecDepth 100000 in
theorem headgatelaw15_FoldCounts.calls (k : Nat) (A0 : Option Addr) (c0 : Nat) (l0 : List Int) (r : Bool) (w : World) (hr0 : Kd.C (Kd.int .i64) w A0 l0.length l0) (hc0 : l0.length ≤ c0) (h : headgatelaw15_FoldCounts.f k l0 = some r) :
  Calls Try.prog 7 #[.slice A0 l0.length c0] w fun e w' => e = .returned (.bool r) ∧ Below w.heap.size w w' := by
 have hu24 := Try.underlying24
 have hu22 := Try.underlying22
 have HR0 := Aside0.mk hr0
 have HC0 := Aside0.mk hc0
 clear hr0 hc0
 have HB := Aside0.mk (Below.refl w.heap.size w)
 have H : ((headgatelaw15_some.f l0).bind fun t331 => ((fold_All.f k t331).bind fun bt334 => (headgatelaw15_FoldCounts.l0 k t331 false false 0 bt334.1 bt334.2.1 bt334.2.2.1 bt334.2.2.2.1 bt334.2.2.2.2.1 bt334.2.2.2.2.2.1 bt334.2.2.2.2.2.2.1 bt334.2.2.2.2.2.2.2.1 bt334.2.2.2.2.2.2.2.2.1 bt334.2.2.2.2.2.2.2.2.2 0 0 0 0 0 0 0 0))) = some r := h
 clear h
 replace H := Option.bind_eq_some_iff.mp H
 obtain ⟨t331, A20, H⟩ := H
 replace H : ((fold_All.f k t331).bind fun bt334 => (headgatelaw15_FoldCounts.l0 k t331 false false 0 bt334.1 bt334.2.1 bt334.2.2.1 bt334.2.2.2.1 bt334.2.2.2.2.1 bt334.2.2.2.2.2.1 bt334.2.2.2.2.2.2.1 bt334.2.2.2.2.2.2.2.1 bt334.2.2.2.2.2.2.2.2.1 bt334.2.2.2.2.2.2.2.2.2 0 0 0 0 0 0 0 0)) = some r := H
 have A2 := Aside0.mk A20
 clear A20
 replace H := Option.bind_eq_some_iff.mp H
 obtain ⟨⟨t334, t335, t336, t337, t338, t339, t340, t341, t342, t343⟩, A30, H⟩ := H
 replace H : (headgatelaw15_FoldCounts.l0 k t331 false false 0 t334 t335 t336 t337 t338 t339 t340 t341 t342 t343 0 0 0 0 0 0 0 0) = some r := H
 have A3 := Aside0.mk A30
 clear A30
 have H' := Aside0.mk H
 clear H
 go_enter Try.func7, Try.ntmps7
 go_wp2_with (first | ((with_reducible refine gate_callee (f := 15) rfl ?_); refine goesL_ (some 12) rfl rfl Try.func15 (by kernel_rfl) rfl #[.slice A0 l0.length c0] rfl (by (try simp only [List.map_toArray, List.map_cons, List.map_nil]); first | done | rfl | (simp only [List.length_drop, List.length_take]; rfl)) ?_; (with_reducible refine (headgatelaw15_some.calls (fun k_ => k_ < w.heap.size) _ _ l0 t331 _ ?side1 A2.out).mono ?_); (case side1 => exact Kd.V_mk HC0.out (Kd.F_below (Kd.C_F (Kd.heap_int .i64) HR0.out) (by repeat (first | (with_reducible first | exact HB.out | apply below_alloc | apply pw_below_drewN | apply below_drew1) | exact HB.out)))); rintro e w4 ⟨v332, rfl, ho0, hb⟩; refine ⟨_, rfl, ?_⟩; have n0_ := Aside0.mk (Kd.V_lower (Kd.V_mono (ok' := fun k_ => True) ho0 (fun k_ hk_ => trivial)) (below_size (by repeat (first | (with_reducible first | exact HB.out | apply below_alloc | apply pw_below_drewN | apply below_drew1) | exact HB.out)))); have n1_ := Aside0.mk (below_step (by repeat (first | (with_reducible first | exact HB.out | apply below_alloc | apply pw_below_drewN | apply below_drew1) | exact HB.out)) hb); clear HB; have HO333 := n0_; have HB := n1_; clear n0_ n1_; (try clear hb); (try clear hb2); (try clear hk); (try clear hi); (try clear ho0); obtain ⟨Ao5, co5, eo5⟩ := Kd.V_slice HO333.out; subst eo5) | ((with_reducible refine gate_callee (f := 16) rfl ?_); refine goesL_ (some 14) rfl rfl Try.func16 (by kernel_rfl) rfl #[.slice Ao5 t331.length co5] rfl (by (try simp only [List.map_toArray, List.map_cons, List.map_nil]); first | done | rfl | (simp only [List.length_drop, List.length_take]; rfl)) ?_; (with_reducible refine (fold_All.calls k _ _ t331 t334 t335 t336 t337 t338 t339 t340 t341 t342 t343 _ ?side1 ?side2 A3.out).mono ?_); (case side1 => repeat (first | exact (Kd.V_reads' HO333.out).2.2 | (with_reducible refine Kd.C_alloc ?_ _) | (with_reducible refine Kd.C_drewN ?_ _) | (with_reducible refine Kd.C_drew ?_))); (case side2 => exact (Kd.V_reads' HO333.out).2.1); rintro e w6 ⟨rfl, hb⟩; refine ⟨_, rfl, ?_⟩; have n0_ := Aside0.mk (Kd.V_below (by (with_reducible repeat (first | apply Kd.V_alloc | apply Kd.V_drewN | apply Kd.V_drew)); exact HO333.out) hb); have n1_ := Aside0.mk (below_step (by repeat (first | (with_reducible first | exact HB.out | apply below_alloc | apply pw_below_drewN | apply below_drew1) | exact HB.out)) hb); clear HO333; clear HB; have HO333 := n0_; have HB := n1_; clear n0_ n1_; (try clear hb); (try clear hb2); (try clear hk); (try clear hi)) | ((with_reducible refine gate_dst (N := 3) rfl ?_); refine box_event ?hg (N := 3) ?hd (cs := #[.int .i64 0, .int .i64 0, .int .i64 0, .int .i64 0, .int .i64 0, .int .i64 0, .int .i64 0, .int .i64 0, .int .i64 0, .int .i64 0]) (t := 24) ?hr ?_; (case hd => rfl); (case hg => rfl); (case hr => first | (go_simp; done) | (go_simp; rfl)); intro gb344 hg w7 hbox hb; have n0_ := Aside0.mk (Kd.V_below (Kd.V_elderB (by (with_reducible repeat (first | apply Kd.V_alloc | apply Kd.V_drewN | apply Kd.V_drew)); exact HO333.out) gb344 (Nat.le_of_eq hg.symm)) hb); have n1_ := Aside0.mk (below_step (by repeat (first | (with_reducible first | exact HB.out | apply below_alloc | apply pw_below_drewN | apply below_drew1) | exact HB.out)) hb); have n2_ := Aside0.mk (hbox); have n3_ := Aside0.mk ((by rw [hg]; exact (below_size (by repeat (first | (with_reducible first | exact HB.out | apply below_alloc | apply pw_below_drewN | apply below_drew1) | exact HB.out))) : w.heap.size ≤ gb344)); have n4_ := Aside0.mk ((by rw [hg]; exact (below_size (by repeat (first | (with_reducible first | exact HB.out | apply below_alloc | apply pw_below_drewN | apply below_drew1) | exact HB.out))) : w.heap.size ≤ gb344)); clear HO333; clear HB; have HO333 := n0_; have HB := n1_; have BK344 := n2_; have GW344 := n3_; have GE344 := n4_; clear n0_ n1_ n2_ n3_ n4_; clear hb hbox hg; have hcz8_0 : w7.cell? ⟨gb344, 0, none⟩ = some (.int .i64 0) := (blk_cell BK344.out 0).trans rfl; have hcz8_1 : w7.cell? ⟨gb344, 1, none⟩ = some (.int .i64 0) := (blk_cell BK344.out 1).trans rfl; have hcz8_2 : w7.cell? ⟨gb344, 2, none⟩ = some (.int .i64 0) := (blk_cell BK344.out 2).trans rfl; have hcz8_3 : w7.cell? ⟨gb344, 3, none⟩ = some (.int .i64 0) := (blk_cell BK344.out 3).trans rfl; have hcz8_4 : w7.cell? ⟨gb344, 4, none⟩ = some (.int .i64 0) := (blk_cell BK344.out 4).trans rfl; have hcz8_5 : w7.cell? ⟨gb344, 5, none⟩ = some (.int .i64 0) := (blk_cell BK344.out 5).trans rfl; have hcz8_6 : w7.cell? ⟨gb344, 6, none⟩ = some (.int .i64 0) := (blk_cell BK344.out 6).trans rfl; have hcz8_7 : w7.cell? ⟨gb344, 7, none⟩ = some (.int .i64 0) := (blk_cell BK344.out 7).trans rfl; have hcz8_8 : w7.cell? ⟨gb344, 8, none⟩ = some (.int .i64 0) := (blk_cell BK344.out 8).trans rfl; have hcz8_9 : w7.cell? ⟨gb344, 9, none⟩ = some (.int .i64 0) := (blk_cell BK344.out 9).trans rfl; have hfz8_0 := blk_frozen BK344.out 0; have hfz8_1 := blk_frozen BK344.out 1; have hfz8_2 := blk_frozen BK344.out 2; have hfz8_3 := blk_frozen BK344.out 3; have hfz8_4 := blk_frozen BK344.out 4; have hfz8_5 := blk_frozen BK344.out 5; have hfz8_6 := blk_frozen BK344.out 6; have hfz8_7 := blk_frozen BK344.out 7; have hfz8_8 := blk_frozen BK344.out 8; have hfz8_9 := blk_frozen BK344.out 9) | ((with_reducible refine gate_dst (N := 4) rfl ?_); refine box_event ?hg (N := 4) ?hd (cs := #[.int .i64 0, .int .i64 0, .int .i64 0, .int .i64 0]) (t := 22) ?hr ?_; (case hd => rfl); (case hg => rfl); (case hr => first | (go_simp; done) | (go_simp; rfl)); intro gb345 hg w9 hbox hb; have n0_ := Aside0.mk (Kd.V_below (Kd.V_elderB (by (with_reducible repeat (first | apply Kd.V_alloc | apply Kd.V_drewN | apply Kd.V_drew)); exact (Kd.V_mono (Kd.V_far (p := ⟨gb344, 9, none⟩) (Kd.V_far (p := ⟨gb344, 8, none⟩) (Kd.V_far (p := ⟨gb344, 7, none⟩) (Kd.V_far (p := ⟨gb344, 6, none⟩) (Kd.V_far (p := ⟨gb344, 5, none⟩) (Kd.V_far (p := ⟨gb344, 4, none⟩) (Kd.V_far (p := ⟨gb344, 3, none⟩) (Kd.V_far (p := ⟨gb344, 2, none⟩) (Kd.V_far (p := ⟨gb344, 1, none⟩) (Kd.V_far (p := ⟨gb344, 0, none⟩) (Kd.V_mono HO333.out (fun k_ hk => (⟨hk, hk.2⟩ : _ ∧ k_ ≠ gb344))) (fun _ hk => hk.2) (.int .i64 t334)) (fun _ hk => hk.2) (.int .i64 t335)) (fun _ hk => hk.2) (.int .i64 t336)) (fun _ hk => hk.2) (.int .i64 t337)) (fun _ hk => hk.2) (.int .i64 t338)) (fun _ hk => hk.2) (.int .i64 t339)) (fun _ hk => hk.2) (.int .i64 t340)) (fun _ hk => hk.2) (.int .i64 t341)) (fun _ hk => hk.2) (.int .i64 t342)) (fun _ hk => hk.2) (.int .i64 t343)) (fun _ h_ => h_.1))) gb345 (Nat.le_of_eq hg.symm)) hb); have n1_ := Aside0.mk (blk_below (g := gb344) (o := .cells #[.int .i64 t334, .int .i64 t335, .int .i64 t336, .int .i64 t337, .int .i64 t338, .int .i64 t339, .int .i64 t340, .int .i64 t341, .int .i64 t342, .int .i64 t343] 24 (0, 0)) (by (with_reducible repeat (first | refine blk_drewN ?_ _ | refine blk_drew ?_ | refine blk_alloc ?_ _)); refine blk_put (cs := #[.int .i64 t334, .int .i64 t335, .int .i64 t336, .int .i64 t337, .int .i64 t338, .int .i64 t339, .int .i64 t340, .int .i64 t341, .int .i64 t342, .int .i64 0]) ?_ 9 _ rfl; (with_reducible repeat (first | refine blk_drewN ?_ _ | refine blk_drew ?_ | refine blk_alloc ?_ _)); refine blk_put (cs := #[.int .i64 t334, .int .i64 t335, .int .i64 t336, .int .i64 t337, .int .i64 t338, .int .i64 t339, .int .i64 t340, .int .i64 t341, .int .i64 0, .int .i64 0]) ?_ 8 _ rfl; (with_reducible repeat (first | refine blk_drewN ?_ _ | refine blk_drew ?_ | refine blk_alloc ?_ _)); refine blk_put (cs := #[.int .i64 t334, .int .i64 t335, .int .i64 t336, .int .i64 t337, .int .i64 t338, .int .i64 t339, .int .i64 t340, .int .i64 0, .int .i64 0, .int .i64 0]) ?_ 7 _ rfl; (with_reducible repeat (first | refine blk_drewN ?_ _ | refine blk_drew ?_ | refine blk_alloc ?_ _)); refine blk_put (cs := #[.int .i64 t334, .int .i64 t335, .int .i64 t336, .int .i64 t337, .int .i64 t338, .int .i64 t339, .int .i64 0, .int .i64 0, .int .i64 0, .int .i64 0]) ?_ 6 _ rfl; (with_reducible repeat (first | refine blk_drewN ?_ _ | refine blk_drew ?_ | refine blk_alloc ?_ _)); refine blk_put (cs := #[.int .i64 t334, .int .i64 t335, .int .i64 t336, .int .i64 t337, .int .i64 t338, .int .i64 0, .int .i64 0, .int .i64 0, .int .i64 0, .int .i64 0]) ?_ 5 _ rfl; (with_reducible repeat (first | refine blk_drewN ?_ _ | refine blk_drew ?_ | refine blk_alloc ?_ _)); refine blk_put (cs := #[.int .i64 t334, .int .i64 t335, .int .i64 t336, .int .i64 t337, .int .i64 0, .int .i64 0, .int .i64 0, .int .i64 0, .int .i64 0, .int .i64 0]) ?_ 4 _ rfl; (with_reducible repeat (first | refine blk_drewN ?_ _ | refine blk_drew ?_ | refine blk_alloc ?_ _)); refine blk_put (cs := #[.int .i64 t334, .int .i64 t335, .int .i64 t336, .int .i64 0, .int .i64 0, .int .i64 0, .int .i64 0, .int .i64 0, .int .i64 0, .int .i64 0]) ?_ 3 _ rfl; (with_reducible repeat (first | refine blk_drewN ?_ _ | refine blk_drew ?_ | refine blk_alloc ?_ _)); refine blk_put (cs := #[.int .i64 t334, .int .i64 t335, .int .i64 0, .int .i64 0, .int .i64 0, .int .i64 0, .int .i64 0, .int .i64 0, .int .i64 0, .int .i64 0]) ?_ 2 _ rfl; (with_reducible repeat (first | refine blk_drewN ?_ _ | refine blk_drew ?_ | refine blk_alloc ?_ _)); refine blk_put (cs := #[.int .i64 t334, .int .i64 0, .int .i64 0, .int .i64 0, .int .i64 0, .int .i64 0, .int .i64 0, .int .i64 0, .int .i64 0, .int .i64 0]) ?_ 1 _ rfl; (with_reducible repeat (first | refine blk_drewN ?_ _ | refine blk_drew ?_ | refine blk_alloc ?_ _)); refine blk_put (cs := #[.int .i64 0, .int .i64 0, .int .i64 0, .int .i64 0, .int .i64 0, .int .i64 0, .int .i64 0, .int .i64 0, .int .i64 0, .int .i64 0]) ?_ 0 _ rfl; (with_reducible repeat (first | refine blk_drewN ?_ _ | refine blk_drew ?_ | refine blk_alloc ?_ _)); exact BK344.out) hb); have n2_ := Aside0.mk (below_step (by repeat (first | (with_reducible first | exact HB.out | apply below_alloc | apply pw_below_drewN | apply below_drew1 | refine below_set ?_ GE344.out) | exact HB.out)) hb); have n3_ := Aside0.mk (hbox); have n4_ := Aside0.mk ((by rw [hg]; exact (below_size (by repeat (first | (with_reducible first | exact HB.out | apply below_alloc | apply pw_below_drewN | apply below_drew1 | refine below_set ?_ GE344.out) | exact HB.out))) : w.heap.size ≤ gb345)); have n5_ := Aside0.mk ((by rw [hg]; exact (below_size (by repeat (first | (with_reducible first | exact HB.out | apply below_alloc | apply pw_below_drewN | apply below_drew1 | refine below_set ?_ GE344.out) | exact HB.out))) : w.heap.size ≤ gb345)); have n6_ := Aside0.mk ((by rw [hg]; exact Nat.ne_of_lt (blk_lt (g := gb344) (o := .cells #[.int .i64 t334, .int .i64 t335, .int .i64 t336, .int .i64 t337, .int .i64 t338, .int .i64 t339, .int .i64 t340, .int .i64 t341, .int .i64 t342, .int .i64 t343] 24 (0, 0)) (by (with_reducible repeat (first | refine blk_drewN ?_ _ | refine blk_drew ?_ | refine blk_alloc ?_ _)); refine blk_put (cs := #[.int .i64 t334, .int .i64 t335, .int .i64 t336, .int .i64 t337, .int .i64 t338, .int .i64 t339, .int .i64 t340, .int .i64 t341, .int .i64 t342, .int .i64 0]) ?_ 9 _ rfl; (with_reducible repeat (first | refine blk_drewN ?_ _ | refine blk_drew ?_ | refine blk_alloc ?_ _)); refine blk_put (cs := #[.int .i64 t334, .int .i64 t335, .int .i64 t336, .int .i64 t337, .int .i64 t338, .int .i64 t339, .int .i64 t340, .int .i64 t341, .int .i64 0, .int .i64 0]) ?_ 8 _ rfl; (with_reducible repeat (first | refine blk_drewN ?_ _ | refine blk_drew ?_ | refine blk_alloc ?_ _)); refine blk_put (cs := #[.int .i64 t334, .int .i64 t335, .int .i64 t336, .int .i64 t337, .int .i64 t338, .int .i64 t339, .int .i64 t340, .int .i64 0, .int .i64 0, .int .i64 0]) ?_ 7 _ rfl; (with_reducible repeat (first | refine blk_drewN ?_ _ | refine blk_drew ?_ | refine blk_alloc ?_ _)); refine blk_put (cs := #[.int .i64 t334, .int .i64 t335, .int .i64 t336, .int .i64 t337, .int .i64 t338, .int .i64 t339, .int .i64 0, .int .i64 0, .int .i64 0, .int .i64 0]) ?_ 6 _ rfl; (with_reducible repeat (first | refine blk_drewN ?_ _ | refine blk_drew ?_ | refine blk_alloc ?_ _)); refine blk_put (cs := #[.int .i64 t334, .int .i64 t335, .int .i64 t336, .int .i64 t337, .int .i64 t338, .int .i64 0, .int .i64 0, .int .i64 0, .int .i64 0, .int .i64 0]) ?_ 5 _ rfl; (with_reducible repeat (first | refine blk_drewN ?_ _ | refine blk_drew ?_ | refine blk_alloc ?_ _)); refine blk_put (cs := #[.int .i64 t334, .int .i64 t335, .int .i64 t336, .int .i64 t337, .int .i64 0, .int .i64 0, .int .i64 0, .int .i64 0, .int .i64 0, .int .i64 0]) ?_ 4 _ rfl; (with_reducible repeat (first | refine blk_drewN ?_ _ | refine blk_drew ?_ | refine blk_alloc ?_ _)); refine blk_put (cs := #[.int .i64 t334, .int .i64 t335, .int .i64 t336, .int .i64 0, .int .i64 0, .int .i64 0, .int .i64 0, .int .i64 0, .int .i64 0, .int .i64 0]) ?_ 3 _ rfl; (with_reducible repeat (first | refine blk_drewN ?_ _ | refine blk_drew ?_ | refine blk_alloc ?_ _)); refine blk_put (cs := #[.int .i64 t334, .int .i64 t335, .int .i64 0, .int .i64 0, .int .i64 0, .int .i64 0, .int .i64 0, .int .i64 0, .int .i64 0, .int .i64 0]) ?_ 2 _ rfl; (with_reducible repeat (first | refine blk_drewN ?_ _ | refine blk_drew ?_ | refine blk_alloc ?_ _)); refine blk_put (cs := #[.int .i64 t334, .int .i64 0, .int .i64 0, .int .i64 0, .int .i64 0, .int .i64 0, .int .i64 0, .int .i64 0, .int .i64 0, .int .i64 0]) ?_ 1 _ rfl; (with_reducible repeat (first | refine blk_drewN ?_ _ | refine blk_drew ?_ | refine blk_alloc ?_ _)); refine blk_put (cs := #[.int .i64 0, .int .i64 0, .int .i64 0, .int .i64 0, .int .i64 0, .int .i64 0, .int .i64 0, .int .i64 0, .int .i64 0, .int .i64 0]) ?_ 0 _ rfl; (with_reducible repeat (first | refine blk_drewN ?_ _ | refine blk_drew ?_ | refine blk_alloc ?_ _)); exact BK344.out)) : gb344 ≠ gb345)); have n7_ := Aside0.mk ((by rw [hg]; exact Nat.ne_of_gt (blk_lt (g := gb344) (o := .cells #[.int .i64 t334, .int .i64 t335, .int .i64 t336, .int .i64 t337, .int .i64 t338, .int .i64 t339, .int .i64 t340, .int .i64 t341, .int .i64 t342, .int .i64 t343] 24 (0, 0)) (by (with_reducible repeat (first | refine blk_drewN ?_ _ | refine blk_drew ?_ | refine blk_alloc ?_ _)); refine blk_put (cs := #[.int .i64 t334, .int .i64 t335, .int .i64 t336, .int .i64 t337, .int .i64 t338, .int .i64 t339, .int .i64 t340, .int .i64 t341, .int .i64 t342, .int .i64 0]) ?_ 9 _ rfl; (with_reducible repeat (first | refine blk_drewN ?_ _ | refine blk_drew ?_ | refine blk_alloc ?_ _)); refine blk_put (cs := #[.int .i64 t334, .int .i64 t335, .int .i64 t336, .int .i64 t337, .int .i64 t338, .int .i64 t339, .int .i64 t340, .int .i64 t341, .int .i64 0, .int .i64 0]) ?_ 8 _ rfl; (with_reducible repeat (first | refine blk_drewN ?_ _ | refine blk_drew ?_ | refine blk_alloc ?_ _)); refine blk_put (cs := #[.int .i64 t334, .int .i64 t335, .int .i64 t336, .int .i64 t337, .int .i64 t338, .int .i64 t339, .int .i64 t340, .int .i64 0, .int .i64 0, .int .i64 0]) ?_ 7 _ rfl; (with_reducible repeat (first | refine blk_drewN ?_ _ | refine blk_drew ?_ | refine blk_alloc ?_ _)); refine blk_put (cs := #[.int .i64 t334, .int .i64 t335, .int .i64 t336, .int .i64 t337, .int .i64 t338, .int .i64 t339, .int .i64 0, .int .i64 0, .int .i64 0, .int .i64 0]) ?_ 6 _ rfl; (with_reducible repeat (first | refine blk_drewN ?_ _ | refine blk_drew ?_ | refine blk_alloc ?_ _)); refine blk_put (cs := #[.int .i64 t334, .int .i64 t335, .int .i64 t336, .int .i64 t337, .int .i64 t338, .int .i64 0, .int .i64 0, .int .i64 0, .int .i64 0, .int .i64 0]) ?_ 5 _ rfl; (with_reducible repeat (first | refine blk_drewN ?_ _ | refine blk_drew ?_ | refine blk_alloc ?_ _)); refine blk_put (cs := #[.int .i64 t334, .int .i64 t335, .int .i64 t336, .int .i64 t337, .int .i64 0, .int .i64 0, .int .i64 0, .int .i64 0, .int .i64 0, .int .i64 0]) ?_ 4 _ rfl; (with_reducible repeat (first | refine blk_drewN ?_ _ | refine blk_drew ?_ | refine blk_alloc ?_ _)); refine blk_put (cs := #[.int .i64 t334, .int .i64 t335, .int .i64 t336, .int .i64 0, .int .i64 0, .int .i64 0, .int .i64 0, .int .i64 0, .int .i64 0, .int .i64 0]) ?_ 3 _ rfl; (with_reducible repeat (first | refine blk_drewN ?_ _ | refine blk_drew ?_ | refine blk_alloc ?_ _)); refine blk_put (cs := #[.int .i64 t334, .int .i64 t335, .int .i64 0, .int .i64 0, .int .i64 0, .int .i64 0, .int .i64 0, .int .i64 0, .int .i64 0, .int .i64 0]) ?_ 2 _ rfl; (with_reducible repeat (first | refine blk_drewN ?_ _ | refine blk_drew ?_ | refine blk_alloc ?_ _)); refine blk_put (cs := #[.int .i64 t334, .int .i64 0, .int .i64 0, .int .i64 0, .int .i64 0, .int .i64 0, .int .i64 0, .int .i64 0, .int .i64 0, .int .i64 0]) ?_ 1 _ rfl; (with_reducible repeat (first | refine blk_drewN ?_ _ | refine blk_drew ?_ | refine blk_alloc ?_ _)); refine blk_put (cs := #[.int .i64 0, .int .i64 0, .int .i64 0, .int .i64 0, .int .i64 0, .int .i64 0, .int .i64 0, .int .i64 0, .int .i64 0, .int .i64 0]) ?_ 0 _ rfl; (with_reducible repeat (first | refine blk_drewN ?_ _ | refine blk_drew ?_ | refine blk_alloc ?_ _)); exact BK344.out)) : gb345 ≠ gb344)); clear HO333; clear BK344; clear HB; have HO333 := n0_; have BK344 := n1_; have HB := n2_; have BK345 := n3_; have GW345 := n4_; have GE345 := n5_; have NB344_345 := n6_; have NB345_344 := n7_; clear n0_ n1_ n2_ n3_ n4_ n5_ n6_ n7_; clear hb hbox hg) | ((with_reducible refine gate_dst (N := 5) rfl ?_); refine box_event ?hg (N := 5) ?hd (cs := #[.int .i64 0, .int .i64 0, .int .i64 0, .int .i64 0]) (t := 22) ?hr ?_; (case hd => rfl); (case hg => rfl); (case hr => first | (go_simp; done) | (go_simp; rfl)); intro gb346 hg w10 hbox hb; have n0_ := Aside0.mk (Kd.V_below (Kd.V_elderB (by (with_reducible repeat (first | apply Kd.V_alloc | apply Kd.V_drewN | apply Kd.V_drew)); exact HO333.out) gb346 (Nat.le_of_eq hg.symm)) hb); have n1_ := Aside0.mk (blk_below (g := gb344) (o := .cells #[.int .i64 t334, .int .i64 t335, .int .i64 t336, .int .i64 t337, .int .i64 t338, .int .i64 t339, .int .i64 t340, .int .i64 t341, .int .i64 t342, .int .i64 t343] 24 (0, 0)) (by (with_reducible repeat (first | refine blk_drewN ?_ _ | refine blk_drew ?_ | refine blk_alloc ?_ _)); exact BK344.out) hb); have n2_ := Aside0.mk (blk_below (g := gb345) (o := .cells #[.int .i64 0, .int .i64 0, .int .i64 0, .int .i64 0] 22 (0, 0)) (by (with_reducible repeat (first | refine blk_drewN ?_ _ | refine blk_drew ?_ | refine blk_alloc ?_ _)); exact BK345.out) hb); have n3_ := Aside0.mk (below_step (by repeat (first | (with_reducible first | exact HB.out | apply below_alloc | apply pw_below_drewN | apply below_drew1 | refine below_set ?_ GE344.out | refine below_set ?_ GE345.out) | exact HB.out)) hb); have n4_ := Aside0.mk (hbox); have n5_ := Aside0.mk ((by rw [hg]; exact (below_size (by repeat (first | (with_reducible first | exact HB.out | apply below_alloc | apply pw_below_drewN | apply below_drew1 | refine below_set ?_ GE344.out | refine below_set ?_ GE345.out) | exact HB.out))) : w.heap.size ≤ gb346)); have n6_ := Aside0.mk ((by rw [hg]; exact (below_size (by repeat (first | (with_reducible first | exact HB.out | apply below_alloc | apply pw_below_drewN | apply below_drew1 | refine below_set ?_ GE344.out | refine below_set ?_ GE345.out) | exact HB.out))) : w.heap.size ≤ gb346)); have n7_ := Aside0.mk ((by rw [hg]; exact Nat.ne_of_lt (blk_lt (g := gb344) (o := .cells #[.int .i64 t334, .int .i64 t335, .int .i64 t336, .int .i64 t337, .int .i64 t338, .int .i64 t339, .int .i64 t340, .int .i64 t341, .int .i64 t342, .int .i64 t343] 24 (0, 0)) (by (with_reducible repeat (first | refine blk_drewN ?_ _ | refine blk_drew ?_ | refine blk_alloc ?_ _)); exact BK344.out)) : gb344 ≠ gb346)); have n8_ := Aside0.mk ((by rw [hg]; exact Nat.ne_of_gt (blk_lt (g := gb344) (o := .cells #[.int .i64 t334, .int .i64 t335, .int .i64 t336, .int .i64 t337, .int .i64 t338, .int .i64 t339, .int .i64 t340, .int .i64 t341, .int .i64 t342, .int .i64 t343] 24 (0, 0)) (by (with_reducible repeat (first | refine blk_drewN ?_ _ | refine blk_drew ?_ | refine blk_alloc ?_ _)); exact BK344.out)) : gb346 ≠ gb344)); have n9_ := Aside0.mk ((by rw [hg]; exact Nat.ne_of_lt (blk_lt (g := gb345) (o := .cells #[.int .i64 0, .int .i64 0, .int .i64 0, .int .i64 0] 22 (0, 0)) (by (with_reducible repeat (first | refine blk_drewN ?_ _ | refine blk_drew ?_ | refine blk_alloc ?_ _)); exact BK345.out)) : gb345 ≠ gb346)); have n10_ := Aside0.mk ((by rw [hg]; exact Nat.ne_of_gt (blk_lt (g := gb345) (o := .cells #[.int .i64 0, .int .i64 0, .int .i64 0, .int .i64 0] 22 (0, 0)) (by (with_reducible repeat (first | refine blk_drewN ?_ _ | refine blk_drew ?_ | refine blk_alloc ?_ _)); exact BK345.out)) : gb346 ≠ gb345)); clear HO333; clear BK344; clear BK345; clear HB; have HO333 := n0_; have BK344 := n1_; have BK345 := n2_; have HB := n3_; have BK346 := n4_; have GW346 := n5_; have GE346 := n6_; have NB344_346 := n7_; have NB346_344 := n8_; have NB345_346 := n9_; have NB346_345 := n10_; clear n0_ n1_ n2_ n3_ n4_ n5_ n6_ n7_ n8_ n9_ n10_; clear hb hbox hg))
 go_loopg [6, 7, 8] k (fun kq v6 v7 v8 w' => ∃ (x6_1 : Bool) (x7_1 : Bool) (x8_1 : Int) (x346000_1 : Int) (x346001_1 : Int) (x346002_1 : Int) (x346003_1 : Int) (x347000_1 : Int) (x347001_1 : Int) (x347002_1 : Int) (x347003_1 : Int), v6 = .bool x6_1 ∧ v7 = .bool x7_1 ∧ v8 = .int .i64 x8_1 ∧ Aside0 (headgatelaw15_FoldCounts.l0 kq t331 x6_1 x7_1 x8_1 t334 t335 t336 t337 t338 t339 t340 t341 t342 t343 x346000_1 x346001_1 x346002_1 x346003_1 x347000_1 x347001_1 x347002_1 x347003_1 = some r) ∧ Aside0 (kq ≤ k) ∧ Aside0 (Kd.V (Kd.int .i64) 3 w' w.heap.size (fun k_ => k_ ≠ gb344 ∧ k_ ≠ gb345 ∧ k_ ≠ gb346) (.slice Ao5 t331.length co5) t331) ∧ Aside0 (w'.heap[gb344]? = some (.cells #[.int .i64 t334, .int .i64 t335, .int .i64 t336, .int .i64 t337, .int .i64 t338, .int .i64 t339, .int .i64 t340, .int .i64 t341, .int .i64 t342, .int .i64 t343] 24 (0, 0))) ∧ Aside0 (w'.heap[gb345]? = some (.cells #[.int .i64 x346000_1, .int .i64 x346001_1, .int .i64 x346002_1, .int .i64 x346003_1] 22 (0, 0))) ∧ Aside0 (w'.heap[gb346]? = some (.cells #[.int .i64 x347000_1, .int .i64 x347001_1, .int .i64 x347002_1, .int .i64 x347003_1] 22 (0, 0))) ∧ Aside0 (Below w.heap.size w w'))
 case atStart => exact ⟨(false), (false), (0), (0), (0), (0), (0), (0), (0), (0), (0), (by first | rfl | (simp; done) | (simp [*]; done)), (by first | rfl | (simp; done) | (simp [*]; done)), (by first | rfl | (simp; done) | (simp [*]; done)), H', ⟨Nat.le_refl _⟩, ⟨by (with_reducible repeat (first | apply Kd.V_alloc | apply Kd.V_drewN | apply Kd.V_drew)); exact Kd.V_mono HO333.out (fun _ hk => ⟨hk.1.1.2, ⟨hk.1.2, hk.2⟩⟩)⟩, ⟨by (with_reducible repeat (first | refine blk_drewN ?_ _ | refine blk_drew ?_ | refine blk_alloc ?_ _)); exact BK344.out⟩, ⟨by (with_reducible repeat (first | refine blk_drewN ?_ _ | refine blk_drew ?_ | refine blk_alloc ?_ _)); exact BK345.out⟩, ⟨by (with_reducible repeat (first | refine blk_drewN ?_ _ | refine blk_drew ?_ | refine blk_alloc ?_ _)); exact BK346.out⟩, ⟨by repeat (first | (with_reducible first | exact HB.out | apply below_alloc | apply pw_below_drewN | apply below_drew1 | refine below_set ?_ GE344.out | refine below_set ?_ GE345.out | refine below_set ?_ GE346.out) | exact HB.out)⟩⟩
 case round =>
  clear H'
  (try clear c1);(try clear p2);(try clear c7);(try clear hcz8_0);(try clear hcz8_1);(try clear hcz8_2);(try clear hcz8_3);(try clear hcz8_4);(try clear hcz8_5);(try clear hcz8_6);(try clear hcz8_7);(try clear hcz8_8);(try clear hcz8_9);(try clear hfz8_0);(try clear hfz8_1);(try clear hfz8_2);(try clear hfz8_3);(try clear hfz8_4);(try clear hfz8_5);(try clear hfz8_6);(try clear hfz8_7);(try clear hfz8_8);(try clear hfz8_9)
  obtain ⟨x6_1, x7_1, x8_1, x346000_1, x346001_1, x346002_1, x346003_1, x347000_1, x347001_1, x347002_1, x347003_1, rfl, rfl, rfl, HA, HK1, HO_0, BK344, BK345, BK346, HB⟩ := hrel
  cases gk with
  | zero => exact absurd HA.out (by simp [headgatelaw15_FoldCounts.l0])
  | succ k1 =>
   have H := HA.out
   clear HA
   simp only [headgatelaw15_FoldCounts.l0] at H
   by_cases c11 : x8_1 < (t331.length : Int)
   ·rw [if_pos c11] at H
    have c11b0 : decide (x8_1 < (t331.length : Int)) = true := decide_eq_true c11
    clear c11
    by_cases c12 : 0 ≤ x8_1
    ·rw [if_pos c12] at H
     have c12b0 : decide (0 ≤ x8_1) = true := decide_eq_true c12
     clear c12
     have HC13 := Aside0.mk H
     clear H
     have p347 : 0 ≤ (x8_1 : Int) := of_decide_eq_true (by first | (with_reducible assumption) | assumption)
     have q347 : x8_1 < (t331.length : Int) := of_decide_eq_true (by first | (with_reducible assumption) | assumption)
     obtain ⟨ad347, e347, hx347_0⟩ := Kd.at_int (Kd.V_reads' HO_0.out).2.2 x8_1 p347 q347
     cases e347
     replace p347 := eq_true p347
     replace q347 := eq_true q347
     go_upto_region 10 with (fail)
     go_cut [] (fun wc => ∃ (kq : Nat) (x346000_12 : Int) (x346001_12 : Int) (x346002_12 : Int) (x346003_12 : Int), Aside0 (headgatelaw15_FoldCounts.j1 kq t331 x6_1 x7_1 x8_1 (rd t331 x8_1) t334 t335 t336 t337 t338 t339 t340 t341 t342 t343 x346000_12 x346001_12 x346002_12 x346003_12 x347000_1 x347001_1 x347002_1 x347003_1 = some r) ∧ Aside0 (kq ≤ k1) ∧ Aside0 (Kd.V (Kd.int .i64) 3 wc w.heap.size (fun k_ => k_ ≠ gb344 ∧ k_ ≠ gb345 ∧ k_ ≠ gb346) (.slice (some ad347) t331.length co5) t331) ∧ Aside0 (wc.heap[gb344]? = some (.cells #[.int .i64 t334, .int .i64 t335, .int .i64 t336, .int .i64 t337, .int .i64 t338, .int .i64 t339, .int .i64 t340, .int .i64 t341, .int .i64 t342, .int .i64 t343] 24 (0, 0))) ∧ Aside0 (wc.heap[gb345]? = some (.cells #[.int .i64 x346000_12, .int .i64 x346001_12, .int .i64 x346002_12, .int .i64 x346003_12] 22 (0, 0))) ∧ Aside0 (wc.heap[gb346]? = some (.cells #[.int .i64 x347000_1, .int .i64 x347001_1, .int .i64 x347002_1, .int .i64 x347003_1] 22 (0, 0))) ∧ Aside0 (Below w.heap.size w wc))
     case first =>
      have H := HC13.out
      clear HC13
      obtain ⟨ji14, hji14⟩ : ∃ j_ : Int, (Go.bits .and .i64 (rd t331 x8_1) 3) = j_ := ⟨_, rfl⟩
      replace H : (if (ji14) = 0 then (headgatelaw15_FoldCounts.j1 k1 t331 x6_1 x7_1 x8_1 (rd t331 x8_1) t334 t335 t336 t337 t338 t339 t340 t341 t342 t343 (wrap64 (x346000_1 + 1)) x346001_1 x346002_1 x346003_1 x347000_1 x347001_1 x347002_1 x347003_1) else (if (ji14) = 1 then (headgatelaw15_FoldCounts.j1 k1 t331 x6_1 x7_1 x8_1 (rd t331 x8_1) t334 t335 t336 t337 t338 t339 t340 t341 t342 t343 x346000_1 (wrap64 (x346001_1 + 1)) x346002_1 x346003_1 x347000_1 x347001_1 x347002_1 x347003_1) else (if (ji14) = 2 then (headgatelaw15_FoldCounts.j1 k1 t331 x6_1 x7_1 x8_1 (rd t331 x8_1) t334 t335 t336 t337 t338 t339 t340 t341 t342 t343 x346000_1 x346001_1 (wrap64 (x346002_1 + 1)) x346003_1 x347000_1 x347001_1 x347002_1 x347003_1) else (if (ji14) = 3 then (headgatelaw15_FoldCounts.j1 k1 t331 x6_1 x7_1 x8_1 (rd t331 x8_1) t334 t335 t336 t337 t338 t339 t340 t341 t342 t343 x346000_1 x346001_1 x346002_1 (wrap64 (x346003_1 + 1)) x347000_1 x347001_1 x347002_1 x347003_1) else (none))))) = some r := by first | (rw [hji14] at H; exact H) | (simp only [hji14] at H ⊢; exact H)
      by_cases c15 : (ji14) = 0
      ·subst c15
       have H1 : (headgatelaw15_FoldCounts.j1 k1 t331 x6_1 x7_1 x8_1 (rd t331 x8_1) t334 t335 t336 t337 t338 t339 t340 t341 t342 t343 (wrap64 (x346000_1 + 1)) x346001_1 x346002_1 x346003_1 x347000_1 x347001_1 x347002_1 x347003_1) = some r := by rw [if_pos rfl] at H; exact H
       clear H
       have H := H1
       clear H1
       have H' := Aside0.mk H
       clear H
       have hnb16 := NB345_344.out
       have hnc16 := NB344_345.out
       have hnb17 := NB345_346.out
       have hnc17 := NB346_345.out
       have hcz18_0 : wr.cell? ⟨gb345, 0, none⟩ = some (.int .i64 x346000_1) := (blk_cell BK345.out 0).trans rfl
       have hcz18_1 : wr.cell? ⟨gb345, 1, none⟩ = some (.int .i64 x346001_1) := (blk_cell BK345.out 1).trans rfl
       have hcz18_2 : wr.cell? ⟨gb345, 2, none⟩ = some (.int .i64 x346002_1) := (blk_cell BK345.out 2).trans rfl
       have hcz18_3 : wr.cell? ⟨gb345, 3, none⟩ = some (.int .i64 x346003_1) := (blk_cell BK345.out 3).trans rfl
       have hfz18_0 := blk_frozen BK345.out 0
       have hfz18_1 := blk_frozen BK345.out 1
       have hfz18_2 := blk_frozen BK345.out 2
       have hfz18_3 := blk_frozen BK345.out 3
       go_wp2
       go_meet
       case rel => exact ⟨_, (wrap64 (x346000_1 + 1)), (x346001_1), (x346002_1), (x346003_1), H', ⟨by have := HK1.out; first | omega | exact Nat.le_refl _⟩, ⟨by (with_reducible repeat (first | apply Kd.V_alloc | apply Kd.V_drewN | apply Kd.V_drew)); exact Kd.V_mono (Kd.V_far (p := ⟨gb345, 0, none⟩) (Kd.V_mono HO_0.out (fun k_ hk => (⟨hk, hk.2.1⟩ : _ ∧ k_ ≠ gb345))) (fun _ hk => hk.2) (.int .i64 (wrap64 (x346000_1 + 1)))) (fun _ hk => ⟨hk.1.1, ⟨hk.1.2.1, hk.1.2.2⟩⟩)⟩, ⟨by (with_reducible repeat (first | refine blk_drewN ?_ _ | refine blk_drew ?_ | refine blk_alloc ?_ _)); refine blk_far ?_ NB344_345.out _; (with_reducible repeat (first | refine blk_drewN ?_ _ | refine blk_drew ?_ | refine blk_alloc ?_ _)); exact BK344.out⟩, ⟨by (with_reducible repeat (first | refine blk_drewN ?_ _ | refine blk_drew ?_ | refine blk_alloc ?_ _)); refine blk_put (cs := #[.int .i64 x346000_1, .int .i64 x346001_1, .int .i64 x346002_1, .int .i64 x346003_1]) ?_ 0 _ rfl; (with_reducible repeat (first | refine blk_drewN ?_ _ | refine blk_drew ?_ | refine blk_alloc ?_ _)); exact BK345.out⟩, ⟨by (with_reducible repeat (first | refine blk_drewN ?_ _ | refine blk_drew ?_ | refine blk_alloc ?_ _)); refine blk_far ?_ NB346_345.out _; (with_reducible repeat (first | refine blk_drewN ?_ _ | refine blk_drew ?_ | refine blk_alloc ?_ _)); exact BK346.out⟩, ⟨by repeat (first | (with_reducible first | exact HB.out | apply below_alloc | apply pw_below_drewN | apply below_drew1 | refine below_set ?_ GE344.out | refine below_set ?_ GE345.out | refine below_set ?_ GE346.out) | exact HB.out)⟩⟩
      ·rw [if_neg c15] at H
       have Nc15 := Aside0.mk c15
       clear c15
       by_cases c19 : (ji14) = 1
       ·subst c19
        have H1 : (headgatelaw15_FoldCounts.j1 k1 t331 x6_1 x7_1 x8_1 (rd t331 x8_1) t334 t335 t336 t337 t338 t339 t340 t341 t342 t343 x346000_1 (wrap64 (x346001_1 + 1)) x346002_1 x346003_1 x347000_1 x347001_1 x347002_1 x347003_1) = some r := by rw [if_pos rfl] at H; exact H
        clear H
        have H := H1
        clear H1
        have H' := Aside0.mk H
        clear H
        have hnb20 := NB345_344.out
        have hnc20 := NB344_345.out
        have hnb21 := NB345_346.out
        have hnc21 := NB346_345.out
        have hcz22_0 : wr.cell? ⟨gb345, 0, none⟩ = some (.int .i64 x346000_1) := (blk_cell BK345.out 0).trans rfl
        have hcz22_1 : wr.cell? ⟨gb345, 1, none⟩ = some (.int .i64 x346001_1) := (blk_cell BK345.out 1).trans rfl
        have hcz22_2 : wr.cell? ⟨gb345, 2, none⟩ = some (.int .i64 x346002_1) := (blk_cell BK345.out 2).trans rfl
        have hcz22_3 : wr.cell? ⟨gb345, 3, none⟩ = some (.int .i64 x346003_1) := (blk_cell BK345.out 3).trans rfl
        have hfz22_0 := blk_frozen BK345.out 0
        have hfz22_1 := blk_frozen BK345.out 1
        have hfz22_2 := blk_frozen BK345.out 2
        have hfz22_3 := blk_frozen BK345.out 3
        go_wp2
        go_meet
        case rel => exact ⟨_, (x346000_1), (wrap64 (x346001_1 + 1)), (x346002_1), (x346003_1), H', ⟨by have := HK1.out; first | omega | exact Nat.le_refl _⟩, ⟨by (with_reducible repeat (first | apply Kd.V_alloc | apply Kd.V_drewN | apply Kd.V_drew)); exact Kd.V_mono (Kd.V_far (p := ⟨gb345, 1, none⟩) (Kd.V_mono HO_0.out (fun k_ hk => (⟨hk, hk.2.1⟩ : _ ∧ k_ ≠ gb345))) (fun _ hk => hk.2) (.int .i64 (wrap64 (x346001_1 + 1)))) (fun _ hk => ⟨hk.1.1, ⟨hk.1.2.1, hk.1.2.2⟩⟩)⟩, ⟨by (with_reducible repeat (first | refine blk_drewN ?_ _ | refine blk_drew ?_ | refine blk_alloc ?_ _)); refine blk_far ?_ NB344_345.out _; (with_reducible repeat (first | refine blk_drewN ?_ _ | refine blk_drew ?_ | refine blk_alloc ?_ _)); exact BK344.out⟩, ⟨by (with_reducible repeat (first | refine blk_drewN ?_ _ | refine blk_drew ?_ | refine blk_alloc ?_ _)); refine blk_put (cs := #[.int .i64 x346000_1, .int .i64 x346001_1, .int .i64 x346002_1, .int .i64 x346003_1]) ?_ 1 _ rfl; (with_reducible repeat (first | refine blk_drewN ?_ _ | refine blk_drew ?_ | refine blk_alloc ?_ _)); exact BK345.out⟩, ⟨by (with_reducible repeat (first | refine blk_drewN ?_ _ | refine blk_drew ?_ | refine blk_alloc ?_ _)); refine blk_far ?_ NB346_345.out _; (with_reducible repeat (first | refine blk_drewN ?_ _ | refine blk_drew ?_ | refine blk_alloc ?_ _)); exact BK346.out⟩, ⟨by repeat (first | (with_reducible first | exact HB.out | apply below_alloc | apply pw_below_drewN | apply below_drew1 | refine below_set ?_ GE344.out | refine below_set ?_ GE345.out | refine below_set ?_ GE346.out) | exact HB.out)⟩⟩
       ·rw [if_neg c19] at H
        have Nc19 := Aside0.mk c19
        clear c19
        by_cases c23 : (ji14) = 2
        ·subst c23
         have H1 : (headgatelaw15_FoldCounts.j1 k1 t331 x6_1 x7_1 x8_1 (rd t331 x8_1) t334 t335 t336 t337 t338 t339 t340 t341 t342 t343 x346000_1 x346001_1 (wrap64 (x346002_1 + 1)) x346003_1 x347000_1 x347001_1 x347002_1 x347003_1) = some r := by rw [if_pos rfl] at H; exact H
         clear H
         have H := H1
         clear H1
         have H' := Aside0.mk H
         clear H
         have hnb24 := NB345_344.out
         have hnc24 := NB344_345.out
         have hnb25 := NB345_346.out
         have hnc25 := NB346_345.out
         have hcz26_0 : wr.cell? ⟨gb345, 0, none⟩ = some (.int .i64 x346000_1) := (blk_cell BK345.out 0).trans rfl
         have hcz26_1 : wr.cell? ⟨gb345, 1, none⟩ = some (.int .i64 x346001_1) := (blk_cell BK345.out 1).trans rfl
         have hcz26_2 : wr.cell? ⟨gb345, 2, none⟩ = some (.int .i64 x346002_1) := (blk_cell BK345.out 2).trans rfl
         have hcz26_3 : wr.cell? ⟨gb345, 3, none⟩ = some (.int .i64 x346003_1) := (blk_cell BK345.out 3).trans rfl
         have hfz26_0 := blk_frozen BK345.out 0
         have hfz26_1 := blk_frozen BK345.out 1
         have hfz26_2 := blk_frozen BK345.out 2
         have hfz26_3 := blk_frozen BK345.out 3
         go_wp2
         go_meet
         case rel => exact ⟨_, (x346000_1), (x346001_1), (wrap64 (x346002_1 + 1)), (x346003_1), H', ⟨by have := HK1.out; first | omega | exact Nat.le_refl _⟩, ⟨by (with_reducible repeat (first | apply Kd.V_alloc | apply Kd.V_drewN | apply Kd.V_drew)); exact Kd.V_mono (Kd.V_far (p := ⟨gb345, 2, none⟩) (Kd.V_mono HO_0.out (fun k_ hk => (⟨hk, hk.2.1⟩ : _ ∧ k_ ≠ gb345))) (fun _ hk => hk.2) (.int .i64 (wrap64 (x346002_1 + 1)))) (fun _ hk => ⟨hk.1.1, ⟨hk.1.2.1, hk.1.2.2⟩⟩)⟩, ⟨by (with_reducible repeat (first | refine blk_drewN ?_ _ | refine blk_drew ?_ | refine blk_alloc ?_ _)); refine blk_far ?_ NB344_345.out _; (with_reducible repeat (first | refine blk_drewN ?_ _ | refine blk_drew ?_ | refine blk_alloc ?_ _)); exact BK344.out⟩, ⟨by (with_reducible repeat (first | refine blk_drewN ?_ _ | refine blk_drew ?_ | refine blk_alloc ?_ _)); refine blk_put (cs := #[.int .i64 x346000_1, .int .i64 x346001_1, .int .i64 x346002_1, .int .i64 x346003_1]) ?_ 2 _ rfl; (with_reducible repeat (first | refine blk_drewN ?_ _ | refine blk_drew ?_ | refine blk_alloc ?_ _)); exact BK345.out⟩, ⟨by (with_reducible repeat (first | refine blk_drewN ?_ _ | refine blk_drew ?_ | refine blk_alloc ?_ _)); refine blk_far ?_ NB346_345.out _; (with_reducible repeat (first | refine blk_drewN ?_ _ | refine blk_drew ?_ | refine blk_alloc ?_ _)); exact BK346.out⟩, ⟨by repeat (first | (with_reducible first | exact HB.out | apply below_alloc | apply pw_below_drewN | apply below_drew1 | refine below_set ?_ GE344.out | refine below_set ?_ GE345.out | refine below_set ?_ GE346.out) | exact HB.out)⟩⟩
        ·rw [if_neg c23] at H
         have Nc23 := Aside0.mk c23
         clear c23
         by_cases c27 : (ji14) = 3
         ·subst c27
          have H1 : (headgatelaw15_FoldCounts.j1 k1 t331 x6_1 x7_1 x8_1 (rd t331 x8_1) t334 t335 t336 t337 t338 t339 t340 t341 t342 t343 x346000_1 x346001_1 x346002_1 (wrap64 (x346003_1 + 1)) x347000_1 x347001_1 x347002_1 x347003_1) = some r := by rw [if_pos rfl] at H; exact H
          clear H
          have H := H1
          clear H1
          have H' := Aside0.mk H
          clear H
          have hnb28 := NB345_344.out
          have hnc28 := NB344_345.out
          have hnb29 := NB345_346.out
          have hnc29 := NB346_345.out
          have hcz30_0 : wr.cell? ⟨gb345, 0, none⟩ = some (.int .i64 x346000_1) := (blk_cell BK345.out 0).trans rfl
          have hcz30_1 : wr.cell? ⟨gb345, 1, none⟩ = some (.int .i64 x346001_1) := (blk_cell BK345.out 1).trans rfl
          have hcz30_2 : wr.cell? ⟨gb345, 2, none⟩ = some (.int .i64 x346002_1) := (blk_cell BK345.out 2).trans rfl
          have hcz30_3 : wr.cell? ⟨gb345, 3, none⟩ = some (.int .i64 x346003_1) := (blk_cell BK345.out 3).trans rfl
          have hfz30_0 := blk_frozen BK345.out 0
          have hfz30_1 := blk_frozen BK345.out 1
          have hfz30_2 := blk_frozen BK345.out 2
          have hfz30_3 := blk_frozen BK345.out 3
          go_wp2
          go_meet
          case rel => exact ⟨_, (x346000_1), (x346001_1), (x346002_1), (wrap64 (x346003_1 + 1)), H', ⟨by have := HK1.out; first | omega | exact Nat.le_refl _⟩, ⟨by (with_reducible repeat (first | apply Kd.V_alloc | apply Kd.V_drewN | apply Kd.V_drew)); exact Kd.V_mono (Kd.V_far (p := ⟨gb345, 3, none⟩) (Kd.V_mono HO_0.out (fun k_ hk => (⟨hk, hk.2.1⟩ : _ ∧ k_ ≠ gb345))) (fun _ hk => hk.2) (.int .i64 (wrap64 (x346003_1 + 1)))) (fun _ hk => ⟨hk.1.1, ⟨hk.1.2.1, hk.1.2.2⟩⟩)⟩, ⟨by (with_reducible repeat (first | refine blk_drewN ?_ _ | refine blk_drew ?_ | refine blk_alloc ?_ _)); refine blk_far ?_ NB344_345.out _; (with_reducible repeat (first | refine blk_drewN ?_ _ | refine blk_drew ?_ | refine blk_alloc ?_ _)); exact BK344.out⟩, ⟨by (with_reducible repeat (first | refine blk_drewN ?_ _ | refine blk_drew ?_ | refine blk_alloc ?_ _)); refine blk_put (cs := #[.int .i64 x346000_1, .int .i64 x346001_1, .int .i64 x346002_1, .int .i64 x346003_1]) ?_ 3 _ rfl; (with_reducible repeat (first | refine blk_drewN ?_ _ | refine blk_drew ?_ | refine blk_alloc ?_ _)); exact BK345.out⟩, ⟨by (with_reducible repeat (first | refine blk_drewN ?_ _ | refine blk_drew ?_ | refine blk_alloc ?_ _)); refine blk_far ?_ NB346_345.out _; (with_reducible repeat (first | refine blk_drewN ?_ _ | refine blk_drew ?_ | refine blk_alloc ?_ _)); exact BK346.out⟩, ⟨by repeat (first | (with_reducible first | exact HB.out | apply below_alloc | apply pw_below_drewN | apply below_drew1 | refine below_set ?_ GE344.out | refine below_set ?_ GE345.out | refine below_set ?_ GE346.out) | exact HB.out)⟩⟩
         ·rw [if_neg c27] at H
          exact absurd H (by simp)
     case rest =>
      clear HC13
      (try clear c1);(try clear c2);(try clear p2);(try clear p3);(try clear q3);(try clear hx3);(try clear p6);(try clear c7);(try clear c11);(try clear c11b0);(try clear c12);(try clear c12b0);(try clear c15);(try clear c16);(try clear c17);(try clear c19);(try clear c20);(try clear c21);(try clear c23);(try clear c24);(try clear c25);(try clear c27);(try clear c28);(try clear c29);(try clear hcz18_0);(try clear hcz18_1);(try clear hcz18_2);(try clear hcz18_3);(try clear hcz22_0);(try clear hcz22_1);(try clear hcz22_2);(try clear hcz22_3);(try clear hcz26_0);(try clear hcz26_1);(try clear hcz26_2);(try clear hcz26_3);(try clear hcz30_0);(try clear hcz30_1);(try clear hcz30_2);(try clear hcz30_3);(try clear hcz8_0);(try clear hcz8_1);(try clear hcz8_2);(try clear hcz8_3);(try clear hcz8_4);(try clear hcz8_5);(try clear hcz8_6);(try clear hcz8_7);(try clear hcz8_8);(try clear hcz8_9);(try clear hfz18_0);(try clear hfz18_1);(try clear hfz18_2);(try clear hfz18_3);(try clear hfz22_0);(try clear hfz22_1);(try clear hfz22_2);(try clear hfz22_3);(try clear hfz26_0);(try clear hfz26_1);(try clear hfz26_2);(try clear hfz26_3);(try clear hfz30_0);(try clear hfz30_1);(try clear hfz30_2);(try clear hfz30_3);(try clear hfz8_0);(try clear hfz8_1);(try clear hfz8_2);(try clear hfz8_3);(try clear hfz8_4);(try clear hfz8_5);(try clear hfz8_6);(try clear hfz8_7);(try clear hfz8_8);(try clear hfz8_9);(try clear hx347_0);(try clear p2);(try clear p347);(try clear q347)
      obtain ⟨kq, x346000_12, x346001_12, x346002_12, x346003_12, HA, HJ12, HO_0, BK344, BK345, BK346, HB⟩ := hcut
      cases kq with
      | zero => exact absurd HA.out (by simp [headgatelaw15_FoldCounts.j1])
      | succ kj12 =>
       have H := HA.out
       clear HA
       simp only [headgatelaw15_FoldCounts.j1] at H
       by_cases c31 : (rd t331 x8_1) < 0
       ·rw [if_pos c31] at H
        have c31b0 : decide ((rd t331 x8_1) < 0) = true := decide_eq_true c31
        clear c31
        by_cases c32 : x6_1 = true
        ·subst c32
         have H1 : (if x7_1 = true then (if (rd t331 x8_1) < t336 then (some false) else (if (rd t331 x8_1) > t337 then (some false) else (headgatelaw15_FoldCounts.l0 kj12 t331 true true (wrap64 (x8_1 + 1)) t334 t335 t336 t337 t338 t339 t340 t341 t342 t343 x346000_12 x346001_12 x346002_12 x346003_12 (wrap64 (x347000_1 + 1)) x347001_1 x347002_1 x347003_1))) else (if (rd t331 x8_1) < t336 then (some false) else (if (rd t331 x8_1) > t337 then (some false) else (headgatelaw15_FoldCounts.l0 kj12 t331 true ((rd t331 x8_1) == t337) (wrap64 (x8_1 + 1)) t334 t335 t336 t337 t338 t339 t340 t341 t342 t343 x346000_12 x346001_12 x346002_12 x346003_12 (wrap64 (x347000_1 + 1)) x347001_1 x347002_1 x347003_1)))) = some r := by rw [if_pos rfl] at H; exact H
         clear H
         have H := H1
         clear H1
         by_cases c33 : x7_1 = true
         ·subst c33
          have H1 : (if (rd t331 x8_1) < t336 then (some false) else (if (rd t331 x8_1) > t337 then (some false) else (headgatelaw15_FoldCounts.l0 kj12 t331 true true (wrap64 (x8_1 + 1)) t334 t335 t336 t337 t338 t339 t340 t341 t342 t343 x346000_12 x346001_12 x346002_12 x346003_12 (wrap64 (x347000_1 + 1)) x347001_1 x347002_1 x347003_1))) = some r := by rw [if_pos rfl] at H; exact H
          clear H
          have H := H1
          clear H1
          by_cases c34 : (rd t331 x8_1) < t336
          ·rw [if_pos c34] at H
           have c34b0 : decide ((rd t331 x8_1) < t336) = true := decide_eq_true c34
           clear c34
           obtain rfl := Option.some.inj H
           have hnb35 := NB346_344.out
           have hnc35 := NB344_346.out
           have hnb36 := NB346_345.out
           have hnc36 := NB345_346.out
           have hcz37_0 : wc.cell? ⟨gb346, 0, none⟩ = some (.int .i64 x347000_1) := (blk_cell BK346.out 0).trans rfl
           have hcz37_1 : wc.cell? ⟨gb346, 1, none⟩ = some (.int .i64 x347001_1) := (blk_cell BK346.out 1).trans rfl
           have hcz37_2 : wc.cell? ⟨gb346, 2, none⟩ = some (.int .i64 x347002_1) := (blk_cell BK346.out 2).trans rfl
           have hcz37_3 : wc.cell? ⟨gb346, 3, none⟩ = some (.int .i64 x347003_1) := (blk_cell BK346.out 3).trans rfl
           have hfz37_0 := blk_frozen BK346.out 0
           have hfz37_1 := blk_frozen BK346.out 1
           have hfz37_2 := blk_frozen BK346.out 2
           have hfz37_3 := blk_frozen BK346.out 3
           have hnb38 := NB344_345.out
           have hnc38 := NB345_344.out
           have hcz39_0 : wc.cell? ⟨gb344, 0, none⟩ = some (.int .i64 t334) := (blk_cell BK344.out 0).trans rfl
           have hcz39_1 : wc.cell? ⟨gb344, 1, none⟩ = some (.int .i64 t335) := (blk_cell BK344.out 1).trans rfl
           have hcz39_2 : wc.cell? ⟨gb344, 2, none⟩ = some (.int .i64 t336) := (blk_cell BK344.out 2).trans rfl
           have hcz39_3 : wc.cell? ⟨gb344, 3, none⟩ = some (.int .i64 t337) := (blk_cell BK344.out 3).trans rfl
           have hcz39_4 : wc.cell? ⟨gb344, 4, none⟩ = some (.int .i64 t338) := (blk_cell BK344.out 4).trans rfl
           have hcz39_5 : wc.cell? ⟨gb344, 5, none⟩ = some (.int .i64 t339) := (blk_cell BK344.out 5).trans rfl
           have hcz39_6 : wc.cell? ⟨gb344, 6, none⟩ = some (.int .i64 t340) := (blk_cell BK344.out 6).trans rfl
           have hcz39_7 : wc.cell? ⟨gb344, 7, none⟩ = some (.int .i64 t341) := (blk_cell BK344.out 7).trans rfl
           have hcz39_8 : wc.cell? ⟨gb344, 8, none⟩ = some (.int .i64 t342) := (blk_cell BK344.out 8).trans rfl
           have hcz39_9 : wc.cell? ⟨gb344, 9, none⟩ = some (.int .i64 t343) := (blk_cell BK344.out 9).trans rfl
           have hfz39_0 := blk_frozen BK344.out 0
           have hfz39_1 := blk_frozen BK344.out 1
           have hfz39_2 := blk_frozen BK344.out 2
           have hfz39_3 := blk_frozen BK344.out 3
           have hfz39_4 := blk_frozen BK344.out 4
           have hfz39_5 := blk_frozen BK344.out 5
           have hfz39_6 := blk_frozen BK344.out 6
           have hfz39_7 := blk_frozen BK344.out 7
           have hfz39_8 := blk_frozen BK344.out 8
           have hfz39_9 := blk_frozen BK344.out 9
           go_wp2
           go_ret
           exact ⟨by first | rfl | (simp [errW_none, errW_some] <;> rfl) | (simp [*, errW_none, errW_some] <;> rfl), by repeat (first | (with_reducible first | exact HB.out | apply below_alloc | apply pw_below_drewN | apply below_drew1 | refine below_set ?_ GE344.out | refine below_set ?_ GE345.out | refine below_set ?_ GE346.out) | exact HB.out)⟩
          ·rw [if_neg c34] at H
           have c34b0 : decide ((rd t331 x8_1) < t336) = false := decide_eq_false c34
           clear c34
           by_cases c40 : (rd t331 x8_1) > t337
           ·rw [if_pos c40] at H
            have c40b0 : decide (t337 < (rd t331 x8_1)) = true := decide_eq_true c40
            clear c40
            obtain rfl := Option.some.inj H
            have hnb41 := NB346_344.out
            have hnc41 := NB344_346.out
            have hnb42 := NB346_345.out
            have hnc42 := NB345_346.out
            have hcz43_0 : wc.cell? ⟨gb346, 0, none⟩ = some (.int .i64 x347000_1) := (blk_cell BK346.out 0).trans rfl
            have hcz43_1 : wc.cell? ⟨gb346, 1, none⟩ = some (.int .i64 x347001_1) := (blk_cell BK346.out 1).trans rfl
            have hcz43_2 : wc.cell? ⟨gb346, 2, none⟩ = some (.int .i64 x347002_1) := (blk_cell BK346.out 2).trans rfl
            have hcz43_3 : wc.cell? ⟨gb346, 3, none⟩ = some (.int .i64 x347003_1) := (blk_cell BK346.out 3).trans rfl
            have hfz43_0 := blk_frozen BK346.out 0
            have hfz43_1 := blk_frozen BK346.out 1
            have hfz43_2 := blk_frozen BK346.out 2
            have hfz43_3 := blk_frozen BK346.out 3
            have hnb44 := NB344_345.out
            have hnc44 := NB345_344.out
            have hcz45_0 : wc.cell? ⟨gb344, 0, none⟩ = some (.int .i64 t334) := (blk_cell BK344.out 0).trans rfl
            have hcz45_1 : wc.cell? ⟨gb344, 1, none⟩ = some (.int .i64 t335) := (blk_cell BK344.out 1).trans rfl
            have hcz45_2 : wc.cell? ⟨gb344, 2, none⟩ = some (.int .i64 t336) := (blk_cell BK344.out 2).trans rfl
            have hcz45_3 : wc.cell? ⟨gb344, 3, none⟩ = some (.int .i64 t337) := (blk_cell BK344.out 3).trans rfl
            have hcz45_4 : wc.cell? ⟨gb344, 4, none⟩ = some (.int .i64 t338) := (blk_cell BK344.out 4).trans rfl
            have hcz45_5 : wc.cell? ⟨gb344, 5, none⟩ = some (.int .i64 t339) := (blk_cell BK344.out 5).trans rfl
            have hcz45_6 : wc.cell? ⟨gb344, 6, none⟩ = some (.int .i64 t340) := (blk_cell BK344.out 6).trans rfl
            have hcz45_7 : wc.cell? ⟨gb344, 7, none⟩ = some (.int .i64 t341) := (blk_cell BK344.out 7).trans rfl
            have hcz45_8 : wc.cell? ⟨gb344, 8, none⟩ = some (.int .i64 t342) := (blk_cell BK344.out 8).trans rfl
            have hcz45_9 : wc.cell? ⟨gb344, 9, none⟩ = some (.int .i64 t343) := (blk_cell BK344.out 9).trans rfl
            have hfz45_0 := blk_frozen BK344.out 0
            have hfz45_1 := blk_frozen BK344.out 1
            have hfz45_2 := blk_frozen BK344.out 2
            have hfz45_3 := blk_frozen BK344.out 3
            have hfz45_4 := blk_frozen BK344.out 4
            have hfz45_5 := blk_frozen BK344.out 5
            have hfz45_6 := blk_frozen BK344.out 6
            have hfz45_7 := blk_frozen BK344.out 7
            have hfz45_8 := blk_frozen BK344.out 8
            have hfz45_9 := blk_frozen BK344.out 9
            go_wp2
            go_ret
            exact ⟨by first | rfl | (simp [errW_none, errW_some] <;> rfl) | (simp [*, errW_none, errW_some] <;> rfl), by repeat (first | (with_reducible first | exact HB.out | apply below_alloc | apply pw_below_drewN | apply below_drew1 | refine below_set ?_ GE344.out | refine below_set ?_ GE345.out | refine below_set ?_ GE346.out) | exact HB.out)⟩
           ·rw [if_neg c40] at H
            have c40b0 : decide (t337 < (rd t331 x8_1)) = false := decide_eq_false c40
            clear c40
            have H' := Aside0.mk H
            clear H
            have hnb46 := NB346_344.out
            have hnc46 := NB344_346.out
            have hnb47 := NB346_345.out
            have hnc47 := NB345_346.out
            have hcz48_0 : wc.cell? ⟨gb346, 0, none⟩ = some (.int .i64 x347000_1) := (blk_cell BK346.out 0).trans rfl
            have hcz48_1 : wc.cell? ⟨gb346, 1, none⟩ = some (.int .i64 x347001_1) := (blk_cell BK346.out 1).trans rfl
            have hcz48_2 : wc.cell? ⟨gb346, 2, none⟩ = some (.int .i64 x347002_1) := (blk_cell BK346.out 2).trans rfl
            have hcz48_3 : wc.cell? ⟨gb346, 3, none⟩ = some (.int .i64 x347003_1) := (blk_cell BK346.out 3).trans rfl
            have hfz48_0 := blk_frozen BK346.out 0
            have hfz48_1 := blk_frozen BK346.out 1
            have hfz48_2 := blk_frozen BK346.out 2
            have hfz48_3 := blk_frozen BK346.out 3
            have hnb49 := NB344_345.out
            have hnc49 := NB345_344.out
            have hcz50_0 : wc.cell? ⟨gb344, 0, none⟩ = some (.int .i64 t334) := (blk_cell BK344.out 0).trans rfl
            have hcz50_1 : wc.cell? ⟨gb344, 1, none⟩ = some (.int .i64 t335) := (blk_cell BK344.out 1).trans rfl
            have hcz50_2 : wc.cell? ⟨gb344, 2, none⟩ = some (.int .i64 t336) := (blk_cell BK344.out 2).trans rfl
            have hcz50_3 : wc.cell? ⟨gb344, 3, none⟩ = some (.int .i64 t337) := (blk_cell BK344.out 3).trans rfl
            have hcz50_4 : wc.cell? ⟨gb344, 4, none⟩ = some (.int .i64 t338) := (blk_cell BK344.out 4).trans rfl
            have hcz50_5 : wc.cell? ⟨gb344, 5, none⟩ = some (.int .i64 t339) := (blk_cell BK344.out 5).trans rfl
            have hcz50_6 : wc.cell? ⟨gb344, 6, none⟩ = some (.int .i64 t340) := (blk_cell BK344.out 6).trans rfl
            have hcz50_7 : wc.cell? ⟨gb344, 7, none⟩ = some (.int .i64 t341) := (blk_cell BK344.out 7).trans rfl
            have hcz50_8 : wc.cell? ⟨gb344, 8, none⟩ = some (.int .i64 t342) := (blk_cell BK344.out 8).trans rfl
            have hcz50_9 : wc.cell? ⟨gb344, 9, none⟩ = some (.int .i64 t343) := (blk_cell BK344.out 9).trans rfl
            have hfz50_0 := blk_frozen BK344.out 0
            have hfz50_1 := blk_frozen BK344.out 1
            have hfz50_2 := blk_frozen BK344.out 2
            have hfz50_3 := blk_frozen BK344.out 3
            have hfz50_4 := blk_frozen BK344.out 4
            have hfz50_5 := blk_frozen BK344.out 5
            have hfz50_6 := blk_frozen BK344.out 6
            have hfz50_7 := blk_frozen BK344.out 7
            have hfz50_8 := blk_frozen BK344.out 8
            have hfz50_9 := blk_frozen BK344.out 9
            go_wp2
            go_roundg kj12
            case measure => have := HK1.out; have := HJ12.out; omega
            case rel => exact ⟨(true), (true), (wrap64 (x8_1 + 1)), (x346000_12), (x346001_12), (x346002_12), (x346003_12), (wrap64 (x347000_1 + 1)), (x347001_1), (x347002_1), (x347003_1), (by first | rfl | (simp; done) | (simp [*]; done) | (simp [wrap64]; done)), (by first | rfl | (simp; done) | (simp [*]; done) | (simp [wrap64]; done)), (by first | rfl | (simp; done) | (simp [*]; done) | (simp [wrap64]; done)), H', ⟨by have := HK1.out; have := HJ12.out; omega⟩, ⟨by (with_reducible repeat (first | apply Kd.V_alloc | apply Kd.V_drewN | apply Kd.V_drew)); exact Kd.V_mono (Kd.V_far (p := ⟨gb346, 0, none⟩) (Kd.V_mono HO_0.out (fun k_ hk => (⟨hk, hk.2.2⟩ : _ ∧ k_ ≠ gb346))) (fun _ hk => hk.2) (.int .i64 (wrap64 (x347000_1 + 1)))) (fun _ hk => ⟨hk.1.1, ⟨hk.1.2.1, hk.1.2.2⟩⟩)⟩, ⟨by (with_reducible repeat (first | refine blk_drewN ?_ _ | refine blk_drew ?_ | refine blk_alloc ?_ _)); refine blk_far ?_ NB344_346.out _; (with_reducible repeat (first | refine blk_drewN ?_ _ | refine blk_drew ?_ | refine blk_alloc ?_ _)); exact BK344.out⟩, ⟨by (with_reducible repeat (first | refine blk_drewN ?_ _ | refine blk_drew ?_ | refine blk_alloc ?_ _)); refine blk_far ?_ NB345_346.out _; (with_reducible repeat (first | refine blk_drewN ?_ _ | refine blk_drew ?_ | refine blk_alloc ?_ _)); exact BK345.out⟩, ⟨by (with_reducible repeat (first | refine blk_drewN ?_ _ | refine blk_drew ?_ | refine blk_alloc ?_ _)); refine blk_put (cs := #[.int .i64 x347000_1, .int .i64 x347001_1, .int .i64 x347002_1, .int .i64 x347003_1]) ?_ 0 _ rfl; (with_reducible repeat (first | refine blk_drewN ?_ _ | refine blk_drew ?_ | refine blk_alloc ?_ _)); exact BK346.out⟩, ⟨by repeat (first | (with_reducible first | exact HB.out | apply below_alloc | apply pw_below_drewN | apply below_drew1 | refine below_set ?_ GE344.out | refine below_set ?_ GE345.out | refine below_set ?_ GE346.out) | exact HB.out)⟩⟩
         ·replace c33 := Bool.eq_false_iff.mpr c33
          subst c33
          have H1 : (if (rd t331 x8_1) < t336 then (some false) else (if (rd t331 x8_1) > t337 then (some false) else (headgatelaw15_FoldCounts.l0 kj12 t331 true ((rd t331 x8_1) == t337) (wrap64 (x8_1 + 1)) t334 t335 t336 t337 t338 t339 t340 t341 t342 t343 x346000_12 x346001_12 x346002_12 x346003_12 (wrap64 (x347000_1 + 1)) x347001_1 x347002_1 x347003_1))) = some r := by rw [if_neg (show ¬ (false = true) by decide)] at H; exact H
          clear H
          have H := H1
          clear H1
          by_cases c51 : (rd t331 x8_1) < t336
          ·rw [if_pos c51] at H
           have c51b0 : decide ((rd t331 x8_1) < t336) = true := decide_eq_true c51
           clear c51
           obtain rfl := Option.some.inj H
           have hnb52 := NB346_344.out
           have hnc52 := NB344_346.out
           have hnb53 := NB346_345.out
           have hnc53 := NB345_346.out
           have hcz54_0 : wc.cell? ⟨gb346, 0, none⟩ = some (.int .i64 x347000_1) := (blk_cell BK346.out 0).trans rfl
           have hcz54_1 : wc.cell? ⟨gb346, 1, none⟩ = some (.int .i64 x347001_1) := (blk_cell BK346.out 1).trans rfl
           have hcz54_2 : wc.cell? ⟨gb346, 2, none⟩ = some (.int .i64 x347002_1) := (blk_cell BK346.out 2).trans rfl
           have hcz54_3 : wc.cell? ⟨gb346, 3, none⟩ = some (.int .i64 x347003_1) := (blk_cell BK346.out 3).trans rfl
           have hfz54_0 := blk_frozen BK346.out 0
           have hfz54_1 := blk_frozen BK346.out 1
           have hfz54_2 := blk_frozen BK346.out 2
           have hfz54_3 := blk_frozen BK346.out 3
           have hnb55 := NB344_345.out
           have hnc55 := NB345_344.out
           have hcz56_0 : wc.cell? ⟨gb344, 0, none⟩ = some (.int .i64 t334) := (blk_cell BK344.out 0).trans rfl
           have hcz56_1 : wc.cell? ⟨gb344, 1, none⟩ = some (.int .i64 t335) := (blk_cell BK344.out 1).trans rfl
           have hcz56_2 : wc.cell? ⟨gb344, 2, none⟩ = some (.int .i64 t336) := (blk_cell BK344.out 2).trans rfl
           have hcz56_3 : wc.cell? ⟨gb344, 3, none⟩ = some (.int .i64 t337) := (blk_cell BK344.out 3).trans rfl
           have hcz56_4 : wc.cell? ⟨gb344, 4, none⟩ = some (.int .i64 t338) := (blk_cell BK344.out 4).trans rfl
           have hcz56_5 : wc.cell? ⟨gb344, 5, none⟩ = some (.int .i64 t339) := (blk_cell BK344.out 5).trans rfl
           have hcz56_6 : wc.cell? ⟨gb344, 6, none⟩ = some (.int .i64 t340) := (blk_cell BK344.out 6).trans rfl
           have hcz56_7 : wc.cell? ⟨gb344, 7, none⟩ = some (.int .i64 t341) := (blk_cell BK344.out 7).trans rfl
           have hcz56_8 : wc.cell? ⟨gb344, 8, none⟩ = some (.int .i64 t342) := (blk_cell BK344.out 8).trans rfl
           have hcz56_9 : wc.cell? ⟨gb344, 9, none⟩ = some (.int .i64 t343) := (blk_cell BK344.out 9).trans rfl
           have hfz56_0 := blk_frozen BK344.out 0
           have hfz56_1 := blk_frozen BK344.out 1
           have hfz56_2 := blk_frozen BK344.out 2
           have hfz56_3 := blk_frozen BK344.out 3
           have hfz56_4 := blk_frozen BK344.out 4
           have hfz56_5 := blk_frozen BK344.out 5
           have hfz56_6 := blk_frozen BK344.out 6
           have hfz56_7 := blk_frozen BK344.out 7
           have hfz56_8 := blk_frozen BK344.out 8
           have hfz56_9 := blk_frozen BK344.out 9
           go_wp2
           go_ret
           exact ⟨by first | rfl | (simp [errW_none, errW_some] <;> rfl) | (simp [*, errW_none, errW_some] <;> rfl), by repeat (first | (with_reducible first | exact HB.out | apply below_alloc | apply pw_below_drewN | apply below_drew1 | refine below_set ?_ GE344.out | refine below_set ?_ GE345.out | refine below_set ?_ GE346.out) | exact HB.out)⟩
          ·rw [if_neg c51] at H
           have c51b0 : decide ((rd t331 x8_1) < t336) = false := decide_eq_false c51
           clear c51
           by_cases c57 : (rd t331 x8_1) > t337
           ·rw [if_pos c57] at H
            have c57b0 : decide (t337 < (rd t331 x8_1)) = true := decide_eq_true c57
            clear c57
            obtain rfl := Option.some.inj H
            have hnb58 := NB346_344.out
            have hnc58 := NB344_346.out
            have hnb59 := NB346_345.out
            have hnc59 := NB345_346.out
            have hcz60_0 : wc.cell? ⟨gb346, 0, none⟩ = some (.int .i64 x347000_1) := (blk_cell BK346.out 0).trans rfl
            have hcz60_1 : wc.cell? ⟨gb346, 1, none⟩ = some (.int .i64 x347001_1) := (blk_cell BK346.out 1).trans rfl
            have hcz60_2 : wc.cell? ⟨gb346, 2, none⟩ = some (.int .i64 x347002_1) := (blk_cell BK346.out 2).trans rfl
            have hcz60_3 : wc.cell? ⟨gb346, 3, none⟩ = some (.int .i64 x347003_1) := (blk_cell BK346.out 3).trans rfl
            have hfz60_0 := blk_frozen BK346.out 0
            have hfz60_1 := blk_frozen BK346.out 1
            have hfz60_2 := blk_frozen BK346.out 2
            have hfz60_3 := blk_frozen BK346.out 3
            have hnb61 := NB344_345.out
            have hnc61 := NB345_344.out
            have hcz62_0 : wc.cell? ⟨gb344, 0, none⟩ = some (.int .i64 t334) := (blk_cell BK344.out 0).trans rfl
            have hcz62_1 : wc.cell? ⟨gb344, 1, none⟩ = some (.int .i64 t335) := (blk_cell BK344.out 1).trans rfl
            have hcz62_2 : wc.cell? ⟨gb344, 2, none⟩ = some (.int .i64 t336) := (blk_cell BK344.out 2).trans rfl
            have hcz62_3 : wc.cell? ⟨gb344, 3, none⟩ = some (.int .i64 t337) := (blk_cell BK344.out 3).trans rfl
            have hcz62_4 : wc.cell? ⟨gb344, 4, none⟩ = some (.int .i64 t338) := (blk_cell BK344.out 4).trans rfl
            have hcz62_5 : wc.cell? ⟨gb344, 5, none⟩ = some (.int .i64 t339) := (blk_cell BK344.out 5).trans rfl
            have hcz62_6 : wc.cell? ⟨gb344, 6, none⟩ = some (.int .i64 t340) := (blk_cell BK344.out 6).trans rfl
            have hcz62_7 : wc.cell? ⟨gb344, 7, none⟩ = some (.int .i64 t341) := (blk_cell BK344.out 7).trans rfl
            have hcz62_8 : wc.cell? ⟨gb344, 8, none⟩ = some (.int .i64 t342) := (blk_cell BK344.out 8).trans rfl
            have hcz62_9 : wc.cell? ⟨gb344, 9, none⟩ = some (.int .i64 t343) := (blk_cell BK344.out 9).trans rfl
            have hfz62_0 := blk_frozen BK344.out 0
            have hfz62_1 := blk_frozen BK344.out 1
            have hfz62_2 := blk_frozen BK344.out 2
            have hfz62_3 := blk_frozen BK344.out 3
            have hfz62_4 := blk_frozen BK344.out 4
            have hfz62_5 := blk_frozen BK344.out 5
            have hfz62_6 := blk_frozen BK344.out 6
            have hfz62_7 := blk_frozen BK344.out 7
            have hfz62_8 := blk_frozen BK344.out 8
            have hfz62_9 := blk_frozen BK344.out 9
            go_wp2
            go_ret
            exact ⟨by first | rfl | (simp [errW_none, errW_some] <;> rfl) | (simp [*, errW_none, errW_some] <;> rfl), by repeat (first | (with_reducible first | exact HB.out | apply below_alloc | apply pw_below_drewN | apply below_drew1 | refine below_set ?_ GE344.out | refine below_set ?_ GE345.out | refine below_set ?_ GE346.out) | exact HB.out)⟩
           ·rw [if_neg c57] at H
            have c57b0 : decide (t337 < (rd t331 x8_1)) = false := decide_eq_false c57
            clear c57
            have H' := Aside0.mk H
            clear H
            have hnb63 := NB346_344.out
            have hnc63 := NB344_346.out
            have hnb64 := NB346_345.out
            have hnc64 := NB345_346.out
            have hcz65_0 : wc.cell? ⟨gb346, 0, none⟩ = some (.int .i64 x347000_1) := (blk_cell BK346.out 0).trans rfl
            have hcz65_1 : wc.cell? ⟨gb346, 1, none⟩ = some (.int .i64 x347001_1) := (blk_cell BK346.out 1).trans rfl
            have hcz65_2 : wc.cell? ⟨gb346, 2, none⟩ = some (.int .i64 x347002_1) := (blk_cell BK346.out 2).trans rfl
            have hcz65_3 : wc.cell? ⟨gb346, 3, none⟩ = some (.int .i64 x347003_1) := (blk_cell BK346.out 3).trans rfl
            have hfz65_0 := blk_frozen BK346.out 0
            have hfz65_1 := blk_frozen BK346.out 1
            have hfz65_2 := blk_frozen BK346.out 2
            have hfz65_3 := blk_frozen BK346.out 3
            have hnb66 := NB344_345.out
            have hnc66 := NB345_344.out
            have hcz67_0 : wc.cell? ⟨gb344, 0, none⟩ = some (.int .i64 t334) := (blk_cell BK344.out 0).trans rfl
            have hcz67_1 : wc.cell? ⟨gb344, 1, none⟩ = some (.int .i64 t335) := (blk_cell BK344.out 1).trans rfl
            have hcz67_2 : wc.cell? ⟨gb344, 2, none⟩ = some (.int .i64 t336) := (blk_cell BK344.out 2).trans rfl
            have hcz67_3 : wc.cell? ⟨gb344, 3, none⟩ = some (.int .i64 t337) := (blk_cell BK344.out 3).trans rfl
            have hcz67_4 : wc.cell? ⟨gb344, 4, none⟩ = some (.int .i64 t338) := (blk_cell BK344.out 4).trans rfl
            have hcz67_5 : wc.cell? ⟨gb344, 5, none⟩ = some (.int .i64 t339) := (blk_cell BK344.out 5).trans rfl
            have hcz67_6 : wc.cell? ⟨gb344, 6, none⟩ = some (.int .i64 t340) := (blk_cell BK344.out 6).trans rfl
            have hcz67_7 : wc.cell? ⟨gb344, 7, none⟩ = some (.int .i64 t341) := (blk_cell BK344.out 7).trans rfl
            have hcz67_8 : wc.cell? ⟨gb344, 8, none⟩ = some (.int .i64 t342) := (blk_cell BK344.out 8).trans rfl
            have hcz67_9 : wc.cell? ⟨gb344, 9, none⟩ = some (.int .i64 t343) := (blk_cell BK344.out 9).trans rfl
            have hfz67_0 := blk_frozen BK344.out 0
            have hfz67_1 := blk_frozen BK344.out 1
            have hfz67_2 := blk_frozen BK344.out 2
            have hfz67_3 := blk_frozen BK344.out 3
            have hfz67_4 := blk_frozen BK344.out 4
            have hfz67_5 := blk_frozen BK344.out 5
            have hfz67_6 := blk_frozen BK344.out 6
            have hfz67_7 := blk_frozen BK344.out 7
            have hfz67_8 := blk_frozen BK344.out 8
            have hfz67_9 := blk_frozen BK344.out 9
            go_wp2
            go_roundg kj12
            case measure => have := HK1.out; have := HJ12.out; omega
            case rel => exact ⟨(true), (((rd t331 x8_1) == t337)), (wrap64 (x8_1 + 1)), (x346000_12), (x346001_12), (x346002_12), (x346003_12), (wrap64 (x347000_1 + 1)), (x347001_1), (x347002_1), (x347003_1), (by first | rfl | (simp; done) | (simp [*]; done) | (simp [wrap64]; done)), (by first | rfl | (simp; done) | (simp [*]; done) | (simp [wrap64]; done)), (by first | rfl | (simp; done) | (simp [*]; done) | (simp [wrap64]; done)), H', ⟨by have := HK1.out; have := HJ12.out; omega⟩, ⟨by (with_reducible repeat (first | apply Kd.V_alloc | apply Kd.V_drewN | apply Kd.V_drew)); exact Kd.V_mono (Kd.V_far (p := ⟨gb346, 0, none⟩) (Kd.V_mono HO_0.out (fun k_ hk => (⟨hk, hk.2.2⟩ : _ ∧ k_ ≠ gb346))) (fun _ hk => hk.2) (.int .i64 (wrap64 (x347000_1 + 1)))) (fun _ hk => ⟨hk.1.1, ⟨hk.1.2.1, hk.1.2.2⟩⟩)⟩, ⟨by (with_reducible repeat (first | refine blk_drewN ?_ _ | refine blk_drew ?_ | refine blk_alloc ?_ _)); refine blk_far ?_ NB344_346.out _; (with_reducible repeat (first | refine blk_drewN ?_ _ | refine blk_drew ?_ | refine blk_alloc ?_ _)); exact BK344.out⟩, ⟨by (with_reducible repeat (first | refine blk_drewN ?_ _ | refine blk_drew ?_ | refine blk_alloc ?_ _)); refine blk_far ?_ NB345_346.out _; (with_reducible repeat (first | refine blk_drewN ?_ _ | refine blk_drew ?_ | refine blk_alloc ?_ _)); exact BK345.out⟩, ⟨by (with_reducible repeat (first | refine blk_drewN ?_ _ | refine blk_drew ?_ | refine blk_alloc ?_ _)); refine blk_put (cs := #[.int .i64 x347000_1, .int .i64 x347001_1, .int .i64 x347002_1, .int .i64 x347003_1]) ?_ 0 _ rfl; (with_reducible repeat (first | refine blk_drewN ?_ _ | refine blk_drew ?_ | refine blk_alloc ?_ _)); exact BK346.out⟩, ⟨by repeat (first | (with_reducible first | exact HB.out | apply below_alloc | apply pw_below_drewN | apply below_drew1 | refine below_set ?_ GE344.out | refine below_set ?_ GE345.out | refine below_set ?_ GE346.out) | exact HB.out)⟩⟩
        ·replace c32 := Bool.eq_false_iff.mpr c32
         subst c32
         have H1 : (if x7_1 = true then (if (rd t331 x8_1) < t336 then (some false) else (if (rd t331 x8_1) > t337 then (some false) else (headgatelaw15_FoldCounts.l0 kj12 t331 ((rd t331 x8_1) == t336) true (wrap64 (x8_1 + 1)) t334 t335 t336 t337 t338 t339 t340 t341 t342 t343 x346000_12 x346001_12 x346002_12 x346003_12 (wrap64 (x347000_1 + 1)) x347001_1 x347002_1 x347003_1))) else (if (rd t331 x8_1) < t336 then (some false) else (if (rd t331 x8_1) > t337 then (some false) else (headgatelaw15_FoldCounts.l0 kj12 t331 ((rd t331 x8_1) == t336) ((rd t331 x8_1) == t337) (wrap64 (x8_1 + 1)) t334 t335 t336 t337 t338 t339 t340 t341 t342 t343 x346000_12 x346001_12 x346002_12 x346003_12 (wrap64 (x347000_1 + 1)) x347001_1 x347002_1 x347003_1)))) = some r := by rw [if_neg (show ¬ (false = true) by decide)] at H; exact H
         clear H
         have H := H1
         clear H1
         by_cases c68 : x7_1 = true
         ·subst c68
          have H1 : (if (rd t331 x8_1) < t336 then (some false) else (if (rd t331 x8_1) > t337 then (some false) else (headgatelaw15_FoldCounts.l0 kj12 t331 ((rd t331 x8_1) == t336) true (wrap64 (x8_1 + 1)) t334 t335 t336 t337 t338 t339 t340 t341 t342 t343 x346000_12 x346001_12 x346002_12 x346003_12 (wrap64 (x347000_1 + 1)) x347001_1 x347002_1 x347003_1))) = some r := by rw [if_pos rfl] at H; exact H
          clear H
          have H := H1
          clear H1
          by_cases c69 : (rd t331 x8_1) < t336
          ·rw [if_pos c69] at H
           have c69b0 : decide ((rd t331 x8_1) < t336) = true := decide_eq_true c69
           clear c69
           obtain rfl := Option.some.inj H
           have hnb70 := NB346_344.out
           have hnc70 := NB344_346.out
           have hnb71 := NB346_345.out
           have hnc71 := NB345_346.out
           have hcz72_0 : wc.cell? ⟨gb346, 0, none⟩ = some (.int .i64 x347000_1) := (blk_cell BK346.out 0).trans rfl
           have hcz72_1 : wc.cell? ⟨gb346, 1, none⟩ = some (.int .i64 x347001_1) := (blk_cell BK346.out 1).trans rfl
           have hcz72_2 : wc.cell? ⟨gb346, 2, none⟩ = some (.int .i64 x347002_1) := (blk_cell BK346.out 2).trans rfl
           have hcz72_3 : wc.cell? ⟨gb346, 3, none⟩ = some (.int .i64 x347003_1) := (blk_cell BK346.out 3).trans rfl
           have hfz72_0 := blk_frozen BK346.out 0
           have hfz72_1 := blk_frozen BK346.out 1
           have hfz72_2 := blk_frozen BK346.out 2
           have hfz72_3 := blk_frozen BK346.out 3
           have hnb73 := NB344_345.out
           have hnc73 := NB345_344.out
           have hcz74_0 : wc.cell? ⟨gb344, 0, none⟩ = some (.int .i64 t334) := (blk_cell BK344.out 0).trans rfl
           have hcz74_1 : wc.cell? ⟨gb344, 1, none⟩ = some (.int .i64 t335) := (blk_cell BK344.out 1).trans rfl
           have hcz74_2 : wc.cell? ⟨gb344, 2, none⟩ = some (.int .i64 t336) := (blk_cell BK344.out 2).trans rfl
           have hcz74_3 : wc.cell? ⟨gb344, 3, none⟩ = some (.int .i64 t337) := (blk_cell BK344.out 3).trans rfl
           have hcz74_4 : wc.cell? ⟨gb344, 4, none⟩ = some (.int .i64 t338) := (blk_cell BK344.out 4).trans rfl
           have hcz74_5 : wc.cell? ⟨gb344, 5, none⟩ = some (.int .i64 t339) := (blk_cell BK344.out 5).trans rfl
           have hcz74_6 : wc.cell? ⟨gb344, 6, none⟩ = some (.int .i64 t340) := (blk_cell BK344.out 6).trans rfl
           have hcz74_7 : wc.cell? ⟨gb344, 7, none⟩ = some (.int .i64 t341) := (blk_cell BK344.out 7).trans rfl
           have hcz74_8 : wc.cell? ⟨gb344, 8, none⟩ = some (.int .i64 t342) := (blk_cell BK344.out 8).trans rfl
           have hcz74_9 : wc.cell? ⟨gb344, 9, none⟩ = some (.int .i64 t343) := (blk_cell BK344.out 9).trans rfl
           have hfz74_0 := blk_frozen BK344.out 0
           have hfz74_1 := blk_frozen BK344.out 1
           have hfz74_2 := blk_frozen BK344.out 2
           have hfz74_3 := blk_frozen BK344.out 3
           have hfz74_4 := blk_frozen BK344.out 4
           have hfz74_5 := blk_frozen BK344.out 5
           have hfz74_6 := blk_frozen BK344.out 6
           have hfz74_7 := blk_frozen BK344.out 7
           have hfz74_8 := blk_frozen BK344.out 8
           have hfz74_9 := blk_frozen BK344.out 9
           go_wp2
           go_ret
           exact ⟨by first | rfl | (simp [errW_none, errW_some] <;> rfl) | (simp [*, errW_none, errW_some] <;> rfl), by repeat (first | (with_reducible first | exact HB.out | apply below_alloc | apply pw_below_drewN | apply below_drew1 | refine below_set ?_ GE344.out | refine below_set ?_ GE345.out | refine below_set ?_ GE346.out) | exact HB.out)⟩
          ·rw [if_neg c69] at H
           have c69b0 : decide ((rd t331 x8_1) < t336) = false := decide_eq_false c69
           clear c69
           by_cases c75 : (rd t331 x8_1) > t337
           ·rw [if_pos c75] at H
            have c75b0 : decide (t337 < (rd t331 x8_1)) = true := decide_eq_true c75
            clear c75
            obtain rfl := Option.some.inj H
            have hnb76 := NB346_344.out
            have hnc76 := NB344_346.out
            have hnb77 := NB346_345.out
            have hnc77 := NB345_346.out
            have hcz78_0 : wc.cell? ⟨gb346, 0, none⟩ = some (.int .i64 x347000_1) := (blk_cell BK346.out 0).trans rfl
            have hcz78_1 : wc.cell? ⟨gb346, 1, none⟩ = some (.int .i64 x347001_1) := (blk_cell BK346.out 1).trans rfl
            have hcz78_2 : wc.cell? ⟨gb346, 2, none⟩ = some (.int .i64 x347002_1) := (blk_cell BK346.out 2).trans rfl
            have hcz78_3 : wc.cell? ⟨gb346, 3, none⟩ = some (.int .i64 x347003_1) := (blk_cell BK346.out 3).trans rfl
            have hfz78_0 := blk_frozen BK346.out 0
            have hfz78_1 := blk_frozen BK346.out 1
            have hfz78_2 := blk_frozen BK346.out 2
            have hfz78_3 := blk_frozen BK346.out 3
            have hnb79 := NB344_345.out
            have hnc79 := NB345_344.out
            have hcz80_0 : wc.cell? ⟨gb344, 0, none⟩ = some (.int .i64 t334) := (blk_cell BK344.out 0).trans rfl
            have hcz80_1 : wc.cell? ⟨gb344, 1, none⟩ = some (.int .i64 t335) := (blk_cell BK344.out 1).trans rfl
            have hcz80_2 : wc.cell? ⟨gb344, 2, none⟩ = some (.int .i64 t336) := (blk_cell BK344.out 2).trans rfl
            have hcz80_3 : wc.cell? ⟨gb344, 3, none⟩ = some (.int .i64 t337) := (blk_cell BK344.out 3).trans rfl
            have hcz80_4 : wc.cell? ⟨gb344, 4, none⟩ = some (.int .i64 t338) := (blk_cell BK344.out 4).trans rfl
            have hcz80_5 : wc.cell? ⟨gb344, 5, none⟩ = some (.int .i64 t339) := (blk_cell BK344.out 5).trans rfl
            have hcz80_6 : wc.cell? ⟨gb344, 6, none⟩ = some (.int .i64 t340) := (blk_cell BK344.out 6).trans rfl
            have hcz80_7 : wc.cell? ⟨gb344, 7, none⟩ = some (.int .i64 t341) := (blk_cell BK344.out 7).trans rfl
            have hcz80_8 : wc.cell? ⟨gb344, 8, none⟩ = some (.int .i64 t342) := (blk_cell BK344.out 8).trans rfl
            have hcz80_9 : wc.cell? ⟨gb344, 9, none⟩ = some (.int .i64 t343) := (blk_cell BK344.out 9).trans rfl
            have hfz80_0 := blk_frozen BK344.out 0
            have hfz80_1 := blk_frozen BK344.out 1
            have hfz80_2 := blk_frozen BK344.out 2
            have hfz80_3 := blk_frozen BK344.out 3
            have hfz80_4 := blk_frozen BK344.out 4
            have hfz80_5 := blk_frozen BK344.out 5
            have hfz80_6 := blk_frozen BK344.out 6
            have hfz80_7 := blk_frozen BK344.out 7
            have hfz80_8 := blk_frozen BK344.out 8
            have hfz80_9 := blk_frozen BK344.out 9
            go_wp2
            go_ret
            exact ⟨by first | rfl | (simp [errW_none, errW_some] <;> rfl) | (simp [*, errW_none, errW_some] <;> rfl), by repeat (first | (with_reducible first | exact HB.out | apply below_alloc | apply pw_below_drewN | apply below_drew1 | refine below_set ?_ GE344.out | refine below_set ?_ GE345.out | refine below_set ?_ GE346.out) | exact HB.out)⟩
           ·rw [if_neg c75] at H
            have c75b0 : decide (t337 < (rd t331 x8_1)) = false := decide_eq_false c75
            clear c75
            have H' := Aside0.mk H
            clear H
            have hnb81 := NB346_344.out
            have hnc81 := NB344_346.out
            have hnb82 := NB346_345.out
            have hnc82 := NB345_346.out
            have hcz83_0 : wc.cell? ⟨gb346, 0, none⟩ = some (.int .i64 x347000_1) := (blk_cell BK346.out 0).trans rfl
            have hcz83_1 : wc.cell? ⟨gb346, 1, none⟩ = some (.int .i64 x347001_1) := (blk_cell BK346.out 1).trans rfl
            have hcz83_2 : wc.cell? ⟨gb346, 2, none⟩ = some (.int .i64 x347002_1) := (blk_cell BK346.out 2).trans rfl
            have hcz83_3 : wc.cell? ⟨gb346, 3, none⟩ = some (.int .i64 x347003_1) := (blk_cell BK346.out 3).trans rfl
            have hfz83_0 := blk_frozen BK346.out 0
            have hfz83_1 := blk_frozen BK346.out 1
            have hfz83_2 := blk_frozen BK346.out 2
            have hfz83_3 := blk_frozen BK346.out 3
            have hnb84 := NB344_345.out
            have hnc84 := NB345_344.out
            have hcz85_0 : wc.cell? ⟨gb344, 0, none⟩ = some (.int .i64 t334) := (blk_cell BK344.out 0).trans rfl
            have hcz85_1 : wc.cell? ⟨gb344, 1, none⟩ = some (.int .i64 t335) := (blk_cell BK344.out 1).trans rfl
            have hcz85_2 : wc.cell? ⟨gb344, 2, none⟩ = some (.int .i64 t336) := (blk_cell BK344.out 2).trans rfl
            have hcz85_3 : wc.cell? ⟨gb344, 3, none⟩ = some (.int .i64 t337) := (blk_cell BK344.out 3).trans rfl
            have hcz85_4 : wc.cell? ⟨gb344, 4, none⟩ = some (.int .i64 t338) := (blk_cell BK344.out 4).trans rfl
            have hcz85_5 : wc.cell? ⟨gb344, 5, none⟩ = some (.int .i64 t339) := (blk_cell BK344.out 5).trans rfl
            have hcz85_6 : wc.cell? ⟨gb344, 6, none⟩ = some (.int .i64 t340) := (blk_cell BK344.out 6).trans rfl
            have hcz85_7 : wc.cell? ⟨gb344, 7, none⟩ = some (.int .i64 t341) := (blk_cell BK344.out 7).trans rfl
            have hcz85_8 : wc.cell? ⟨gb344, 8, none⟩ = some (.int .i64 t342) := (blk_cell BK344.out 8).trans rfl
            have hcz85_9 : wc.cell? ⟨gb344, 9, none⟩ = some (.int .i64 t343) := (blk_cell BK344.out 9).trans rfl
            have hfz85_0 := blk_frozen BK344.out 0
            have hfz85_1 := blk_frozen BK344.out 1
            have hfz85_2 := blk_frozen BK344.out 2
            have hfz85_3 := blk_frozen BK344.out 3
            have hfz85_4 := blk_frozen BK344.out 4
            have hfz85_5 := blk_frozen BK344.out 5
            have hfz85_6 := blk_frozen BK344.out 6
            have hfz85_7 := blk_frozen BK344.out 7
            have hfz85_8 := blk_frozen BK344.out 8
            have hfz85_9 := blk_frozen BK344.out 9
            go_wp2
            go_roundg kj12
            case measure => have := HK1.out; have := HJ12.out; omega
            case rel => exact ⟨(((rd t331 x8_1) == t336)), (true), (wrap64 (x8_1 + 1)), (x346000_12), (x346001_12), (x346002_12), (x346003_12), (wrap64 (x347000_1 + 1)), (x347001_1), (x347002_1), (x347003_1), (by first | rfl | (simp; done) | (simp [*]; done) | (simp [wrap64]; done)), (by first | rfl | (simp; done) | (simp [*]; done) | (simp [wrap64]; done)), (by first | rfl | (simp; done) | (simp [*]; done) | (simp [wrap64]; done)), H', ⟨by have := HK1.out; have := HJ12.out; omega⟩, ⟨by (with_reducible repeat (first | apply Kd.V_alloc | apply Kd.V_drewN | apply Kd.V_drew)); exact Kd.V_mono (Kd.V_far (p := ⟨gb346, 0, none⟩) (Kd.V_mono HO_0.out (fun k_ hk => (⟨hk, hk.2.2⟩ : _ ∧ k_ ≠ gb346))) (fun _ hk => hk.2) (.int .i64 (wrap64 (x347000_1 + 1)))) (fun _ hk => ⟨hk.1.1, ⟨hk.1.2.1, hk.1.2.2⟩⟩)⟩, ⟨by (with_reducible repeat (first | refine blk_drewN ?_ _ | refine blk_drew ?_ | refine blk_alloc ?_ _)); refine blk_far ?_ NB344_346.out _; (with_reducible repeat (first | refine blk_drewN ?_ _ | refine blk_drew ?_ | refine blk_alloc ?_ _)); exact BK344.out⟩, ⟨by (with_reducible repeat (first | refine blk_drewN ?_ _ | refine blk_drew ?_ | refine blk_alloc ?_ _)); refine blk_far ?_ NB345_346.out _; (with_reducible repeat (first | refine blk_drewN ?_ _ | refine blk_drew ?_ | refine blk_alloc ?_ _)); exact BK345.out⟩, ⟨by (with_reducible repeat (first | refine blk_drewN ?_ _ | refine blk_drew ?_ | refine blk_alloc ?_ _)); refine blk_put (cs := #[.int .i64 x347000_1, .int .i64 x347001_1, .int .i64 x347002_1, .int .i64 x347003_1]) ?_ 0 _ rfl; (with_reducible repeat (first | refine blk_drewN ?_ _ | refine blk_drew ?_ | refine blk_alloc ?_ _)); exact BK346.out⟩, ⟨by repeat (first | (with_reducible first | exact HB.out | apply below_alloc | apply pw_below_drewN | apply below_drew1 | refine below_set ?_ GE344.out | refine below_set ?_ GE345.out | refine below_set ?_ GE346.out) | exact HB.out)⟩⟩
         ·replace c68 := Bool.eq_false_iff.mpr c68
          subst c68
          have H1 : (if (rd t331 x8_1) < t336 then (some false) else (if (rd t331 x8_1) > t337 then (some false) else (headgatelaw15_FoldCounts.l0 kj12 t331 ((rd t331 x8_1) == t336) ((rd t331 x8_1) == t337) (wrap64 (x8_1 + 1)) t334 t335 t336 t337 t338 t339 t340 t341 t342 t343 x346000_12 x346001_12 x346002_12 x346003_12 (wrap64 (x347000_1 + 1)) x347001_1 x347002_1 x347003_1))) = some r := by rw [if_neg (show ¬ (false = true) by decide)] at H; exact H
          clear H
          have H := H1
          clear H1
          by_cases c86 : (rd t331 x8_1) < t336
          ·rw [if_pos c86] at H
           have c86b0 : decide ((rd t331 x8_1) < t336) = true := decide_eq_true c86
           clear c86
           obtain rfl := Option.some.inj H
           have hnb87 := NB346_344.out
           have hnc87 := NB344_346.out
           have hnb88 := NB346_345.out
           have hnc88 := NB345_346.out
           have hcz89_0 : wc.cell? ⟨gb346, 0, none⟩ = some (.int .i64 x347000_1) := (blk_cell BK346.out 0).trans rfl
           have hcz89_1 : wc.cell? ⟨gb346, 1, none⟩ = some (.int .i64 x347001_1) := (blk_cell BK346.out 1).trans rfl
           have hcz89_2 : wc.cell? ⟨gb346, 2, none⟩ = some (.int .i64 x347002_1) := (blk_cell BK346.out 2).trans rfl
           have hcz89_3 : wc.cell? ⟨gb346, 3, none⟩ = some (.int .i64 x347003_1) := (blk_cell BK346.out 3).trans rfl
           have hfz89_0 := blk_frozen BK346.out 0
           have hfz89_1 := blk_frozen BK346.out 1
           have hfz89_2 := blk_frozen BK346.out 2
           have hfz89_3 := blk_frozen BK346.out 3
           have hnb90 := NB344_345.out
           have hnc90 := NB345_344.out
           have hcz91_0 : wc.cell? ⟨gb344, 0, none⟩ = some (.int .i64 t334) := (blk_cell BK344.out 0).trans rfl
           have hcz91_1 : wc.cell? ⟨gb344, 1, none⟩ = some (.int .i64 t335) := (blk_cell BK344.out 1).trans rfl
           have hcz91_2 : wc.cell? ⟨gb344, 2, none⟩ = some (.int .i64 t336) := (blk_cell BK344.out 2).trans rfl
           have hcz91_3 : wc.cell? ⟨gb344, 3, none⟩ = some (.int .i64 t337) := (blk_cell BK344.out 3).trans rfl
           have hcz91_4 : wc.cell? ⟨gb344, 4, none⟩ = some (.int .i64 t338) := (blk_cell BK344.out 4).trans rfl
           have hcz91_5 : wc.cell? ⟨gb344, 5, none⟩ = some (.int .i64 t339) := (blk_cell BK344.out 5).trans rfl
           have hcz91_6 : wc.cell? ⟨gb344, 6, none⟩ = some (.int .i64 t340) := (blk_cell BK344.out 6).trans rfl
           have hcz91_7 : wc.cell? ⟨gb344, 7, none⟩ = some (.int .i64 t341) := (blk_cell BK344.out 7).trans rfl
           have hcz91_8 : wc.cell? ⟨gb344, 8, none⟩ = some (.int .i64 t342) := (blk_cell BK344.out 8).trans rfl
           have hcz91_9 : wc.cell? ⟨gb344, 9, none⟩ = some (.int .i64 t343) := (blk_cell BK344.out 9).trans rfl
           have hfz91_0 := blk_frozen BK344.out 0
           have hfz91_1 := blk_frozen BK344.out 1
           have hfz91_2 := blk_frozen BK344.out 2
           have hfz91_3 := blk_frozen BK344.out 3
           have hfz91_4 := blk_frozen BK344.out 4
           have hfz91_5 := blk_frozen BK344.out 5
           have hfz91_6 := blk_frozen BK344.out 6
           have hfz91_7 := blk_frozen BK344.out 7
           have hfz91_8 := blk_frozen BK344.out 8
           have hfz91_9 := blk_frozen BK344.out 9
           go_wp2
           go_ret
           exact ⟨by first | rfl | (simp [errW_none, errW_some] <;> rfl) | (simp [*, errW_none, errW_some] <;> rfl), by repeat (first | (with_reducible first | exact HB.out | apply below_alloc | apply pw_below_drewN | apply below_drew1 | refine below_set ?_ GE344.out | refine below_set ?_ GE345.out | refine below_set ?_ GE346.out) | exact HB.out)⟩
          ·rw [if_neg c86] at H
           have c86b0 : decide ((rd t331 x8_1) < t336) = false := decide_eq_false c86
           clear c86
           by_cases c92 : (rd t331 x8_1) > t337
           ·rw [if_pos c92] at H
            have c92b0 : decide (t337 < (rd t331 x8_1)) = true := decide_eq_true c92
            clear c92
            obtain rfl := Option.some.inj H
            have hnb93 := NB346_344.out
            have hnc93 := NB344_346.out
            have hnb94 := NB346_345.out
            have hnc94 := NB345_346.out
            have hcz95_0 : wc.cell? ⟨gb346, 0, none⟩ = some (.int .i64 x347000_1) := (blk_cell BK346.out 0).trans rfl
            have hcz95_1 : wc.cell? ⟨gb346, 1, none⟩ = some (.int .i64 x347001_1) := (blk_cell BK346.out 1).trans rfl
            have hcz95_2 : wc.cell? ⟨gb346, 2, none⟩ = some (.int .i64 x347002_1) := (blk_cell BK346.out 2).trans rfl
            have hcz95_3 : wc.cell? ⟨gb346, 3, none⟩ = some (.int .i64 x347003_1) := (blk_cell BK346.out 3).trans rfl
            have hfz95_0 := blk_frozen BK346.out 0
            have hfz95_1 := blk_frozen BK346.out 1
            have hfz95_2 := blk_frozen BK346.out 2
            have hfz95_3 := blk_frozen BK346.out 3
            have hnb96 := NB344_345.out
            have hnc96 := NB345_344.out
            have hcz97_0 : wc.cell? ⟨gb344, 0, none⟩ = some (.int .i64 t334) := (blk_cell BK344.out 0).trans rfl
            have hcz97_1 : wc.cell? ⟨gb344, 1, none⟩ = some (.int .i64 t335) := (blk_cell BK344.out 1).trans rfl
            have hcz97_2 : wc.cell? ⟨gb344, 2, none⟩ = some (.int .i64 t336) := (blk_cell BK344.out 2).trans rfl
            have hcz97_3 : wc.cell? ⟨gb344, 3, none⟩ = some (.int .i64 t337) := (blk_cell BK344.out 3).trans rfl
            have hcz97_4 : wc.cell? ⟨gb344, 4, none⟩ = some (.int .i64 t338) := (blk_cell BK344.out 4).trans rfl
            have hcz97_5 : wc.cell? ⟨gb344, 5, none⟩ = some (.int .i64 t339) := (blk_cell BK344.out 5).trans rfl
            have hcz97_6 : wc.cell? ⟨gb344, 6, none⟩ = some (.int .i64 t340) := (blk_cell BK344.out 6).trans rfl
            have hcz97_7 : wc.cell? ⟨gb344, 7, none⟩ = some (.int .i64 t341) := (blk_cell BK344.out 7).trans rfl
            have hcz97_8 : wc.cell? ⟨gb344, 8, none⟩ = some (.int .i64 t342) := (blk_cell BK344.out 8).trans rfl
            have hcz97_9 : wc.cell? ⟨gb344, 9, none⟩ = some (.int .i64 t343) := (blk_cell BK344.out 9).trans rfl
            have hfz97_0 := blk_frozen BK344.out 0
            have hfz97_1 := blk_frozen BK344.out 1
            have hfz97_2 := blk_frozen BK344.out 2
            have hfz97_3 := blk_frozen BK344.out 3
            have hfz97_4 := blk_frozen BK344.out 4
            have hfz97_5 := blk_frozen BK344.out 5
            have hfz97_6 := blk_frozen BK344.out 6
            have hfz97_7 := blk_frozen BK344.out 7
            have hfz97_8 := blk_frozen BK344.out 8
            have hfz97_9 := blk_frozen BK344.out 9
            go_wp2
            go_ret
            exact ⟨by first | rfl | (simp [errW_none, errW_some] <;> rfl) | (simp [*, errW_none, errW_some] <;> rfl), by repeat (first | (with_reducible first | exact HB.out | apply below_alloc | apply pw_below_drewN | apply below_drew1 | refine below_set ?_ GE344.out | refine below_set ?_ GE345.out | refine below_set ?_ GE346.out) | exact HB.out)⟩
           ·rw [if_neg c92] at H
            have c92b0 : decide (t337 < (rd t331 x8_1)) = false := decide_eq_false c92
            clear c92
            have H' := Aside0.mk H
            clear H
            have hnb98 := NB346_344.out
            have hnc98 := NB344_346.out
            have hnb99 := NB346_345.out
            have hnc99 := NB345_346.out
            have hcz100_0 : wc.cell? ⟨gb346, 0, none⟩ = some (.int .i64 x347000_1) := (blk_cell BK346.out 0).trans rfl
            have hcz100_1 : wc.cell? ⟨gb346, 1, none⟩ = some (.int .i64 x347001_1) := (blk_cell BK346.out 1).trans rfl
            have hcz100_2 : wc.cell? ⟨gb346, 2, none⟩ = some (.int .i64 x347002_1) := (blk_cell BK346.out 2).trans rfl
            have hcz100_3 : wc.cell? ⟨gb346, 3, none⟩ = some (.int .i64 x347003_1) := (blk_cell BK346.out 3).trans rfl
            have hfz100_0 := blk_frozen BK346.out 0
            have hfz100_1 := blk_frozen BK346.out 1
            have hfz100_2 := blk_frozen BK346.out 2
            have hfz100_3 := blk_frozen BK346.out 3
            have hnb101 := NB344_345.out
            have hnc101 := NB345_344.out
            have hcz102_0 : wc.cell? ⟨gb344, 0, none⟩ = some (.int .i64 t334) := (blk_cell BK344.out 0).trans rfl
            have hcz102_1 : wc.cell? ⟨gb344, 1, none⟩ = some (.int .i64 t335) := (blk_cell BK344.out 1).trans rfl
            have hcz102_2 : wc.cell? ⟨gb344, 2, none⟩ = some (.int .i64 t336) := (blk_cell BK344.out 2).trans rfl
            have hcz102_3 : wc.cell? ⟨gb344, 3, none⟩ = some (.int .i64 t337) := (blk_cell BK344.out 3).trans rfl
            have hcz102_4 : wc.cell? ⟨gb344, 4, none⟩ = some (.int .i64 t338) := (blk_cell BK344.out 4).trans rfl
            have hcz102_5 : wc.cell? ⟨gb344, 5, none⟩ = some (.int .i64 t339) := (blk_cell BK344.out 5).trans rfl
            have hcz102_6 : wc.cell? ⟨gb344, 6, none⟩ = some (.int .i64 t340) := (blk_cell BK344.out 6).trans rfl
            have hcz102_7 : wc.cell? ⟨gb344, 7, none⟩ = some (.int .i64 t341) := (blk_cell BK344.out 7).trans rfl
            have hcz102_8 : wc.cell? ⟨gb344, 8, none⟩ = some (.int .i64 t342) := (blk_cell BK344.out 8).trans rfl
            have hcz102_9 : wc.cell? ⟨gb344, 9, none⟩ = some (.int .i64 t343) := (blk_cell BK344.out 9).trans rfl
            have hfz102_0 := blk_frozen BK344.out 0
            have hfz102_1 := blk_frozen BK344.out 1
            have hfz102_2 := blk_frozen BK344.out 2
            have hfz102_3 := blk_frozen BK344.out 3
            have hfz102_4 := blk_frozen BK344.out 4
            have hfz102_5 := blk_frozen BK344.out 5
            have hfz102_6 := blk_frozen BK344.out 6
            have hfz102_7 := blk_frozen BK344.out 7
            have hfz102_8 := blk_frozen BK344.out 8
            have hfz102_9 := blk_frozen BK344.out 9
            go_wp2
            go_roundg kj12
            case measure => have := HK1.out; have := HJ12.out; omega
            case rel => exact ⟨(((rd t331 x8_1) == t336)), (((rd t331 x8_1) == t337)), (wrap64 (x8_1 + 1)), (x346000_12), (x346001_12), (x346002_12), (x346003_12), (wrap64 (x347000_1 + 1)), (x347001_1), (x347002_1), (x347003_1), (by first | rfl | (simp; done) | (simp [*]; done) | (simp [wrap64]; done)), (by first | rfl | (simp; done) | (simp [*]; done) | (simp [wrap64]; done)), (by first | rfl | (simp; done) | (simp [*]; done) | (simp [wrap64]; done)), H', ⟨by have := HK1.out; have := HJ12.out; omega⟩, ⟨by (with_reducible repeat (first | apply Kd.V_alloc | apply Kd.V_drewN | apply Kd.V_drew)); exact Kd.V_mono (Kd.V_far (p := ⟨gb346, 0, none⟩) (Kd.V_mono HO_0.out (fun k_ hk => (⟨hk, hk.2.2⟩ : _ ∧ k_ ≠ gb346))) (fun _ hk => hk.2) (.int .i64 (wrap64 (x347000_1 + 1)))) (fun _ hk => ⟨hk.1.1, ⟨hk.1.2.1, hk.1.2.2⟩⟩)⟩, ⟨by (with_reducible repeat (first | refine blk_drewN ?_ _ | refine blk_drew ?_ | refine blk_alloc ?_ _)); refine blk_far ?_ NB344_346.out _; (with_reducible repeat (first | refine blk_drewN ?_ _ | refine blk_drew ?_ | refine blk_alloc ?_ _)); exact BK344.out⟩, ⟨by (with_reducible repeat (first | refine blk_drewN ?_ _ | refine blk_drew ?_ | refine blk_alloc ?_ _)); refine blk_far ?_ NB345_346.out _; (with_reducible repeat (first | refine blk_drewN ?_ _ | refine blk_drew ?_ | refine blk_alloc ?_ _)); exact BK345.out⟩, ⟨by (with_reducible repeat (first | refine blk_drewN ?_ _ | refine blk_drew ?_ | refine blk_alloc ?_ _)); refine blk_put (cs := #[.int .i64 x347000_1, .int .i64 x347001_1, .int .i64 x347002_1, .int .i64 x347003_1]) ?_ 0 _ rfl; (with_reducible repeat (first | refine blk_drewN ?_ _ | refine blk_drew ?_ | refine blk_alloc ?_ _)); exact BK346.out⟩, ⟨by repeat (first | (with_reducible first | exact HB.out | apply below_alloc | apply pw_below_drewN | apply below_drew1 | refine below_set ?_ GE344.out | refine below_set ?_ GE345.out | refine below_set ?_ GE346.out) | exact HB.out)⟩⟩
       ·rw [if_neg c31] at H
        have c31b0 : decide ((rd t331 x8_1) < 0) = false := decide_eq_false c31
        clear c31
        by_cases c103 : (rd t331 x8_1) < 10
        ·rw [if_pos c103] at H
         have c103b0 : decide ((rd t331 x8_1) < 10) = true := decide_eq_true c103
         clear c103
         by_cases c104 : x6_1 = true
         ·subst c104
          have H1 : (if x7_1 = true then (if (rd t331 x8_1) < t336 then (some false) else (if (rd t331 x8_1) > t337 then (some false) else (headgatelaw15_FoldCounts.l0 kj12 t331 true true (wrap64 (x8_1 + 1)) t334 t335 t336 t337 t338 t339 t340 t341 t342 t343 x346000_12 x346001_12 x346002_12 x346003_12 x347000_1 (wrap64 (x347001_1 + 1)) x347002_1 x347003_1))) else (if (rd t331 x8_1) < t336 then (some false) else (if (rd t331 x8_1) > t337 then (some false) else (headgatelaw15_FoldCounts.l0 kj12 t331 true ((rd t331 x8_1) == t337) (wrap64 (x8_1 + 1)) t334 t335 t336 t337 t338 t339 t340 t341 t342 t343 x346000_12 x346001_12 x346002_12 x346003_12 x347000_1 (wrap64 (x347001_1 + 1)) x347002_1 x347003_1)))) = some r := by rw [if_pos rfl] at H; exact H
          clear H
          have H := H1
          clear H1
          by_cases c105 : x7_1 = true
          ·subst c105
           have H1 : (if (rd t331 x8_1) < t336 then (some false) else (if (rd t331 x8_1) > t337 then (some false) else (headgatelaw15_FoldCounts.l0 kj12 t331 true true (wrap64 (x8_1 + 1)) t334 t335 t336 t337 t338 t339 t340 t341 t342 t343 x346000_12 x346001_12 x346002_12 x346003_12 x347000_1 (wrap64 (x347001_1 + 1)) x347002_1 x347003_1))) = some r := by rw [if_pos rfl] at H; exact H
           clear H
           have H := H1
           clear H1
           by_cases c106 : (rd t331 x8_1) < t336
           ·rw [if_pos c106] at H
            have c106b0 : decide ((rd t331 x8_1) < t336) = true := decide_eq_true c106
            clear c106
            obtain rfl := Option.some.inj H
            have hnb107 := NB346_344.out
            have hnc107 := NB344_346.out
            have hnb108 := NB346_345.out
            have hnc108 := NB345_346.out
            have hcz109_0 : wc.cell? ⟨gb346, 0, none⟩ = some (.int .i64 x347000_1) := (blk_cell BK346.out 0).trans rfl
            have hcz109_1 : wc.cell? ⟨gb346, 1, none⟩ = some (.int .i64 x347001_1) := (blk_cell BK346.out 1).trans rfl
            have hcz109_2 : wc.cell? ⟨gb346, 2, none⟩ = some (.int .i64 x347002_1) := (blk_cell BK346.out 2).trans rfl
            have hcz109_3 : wc.cell? ⟨gb346, 3, none⟩ = some (.int .i64 x347003_1) := (blk_cell BK346.out 3).trans rfl
            have hfz109_0 := blk_frozen BK346.out 0
            have hfz109_1 := blk_frozen BK346.out 1
            have hfz109_2 := blk_frozen BK346.out 2
            have hfz109_3 := blk_frozen BK346.out 3
            have hnb110 := NB344_345.out
            have hnc110 := NB345_344.out
            have hcz111_0 : wc.cell? ⟨gb344, 0, none⟩ = some (.int .i64 t334) := (blk_cell BK344.out 0).trans rfl
            have hcz111_1 : wc.cell? ⟨gb344, 1, none⟩ = some (.int .i64 t335) := (blk_cell BK344.out 1).trans rfl
            have hcz111_2 : wc.cell? ⟨gb344, 2, none⟩ = some (.int .i64 t336) := (blk_cell BK344.out 2).trans rfl
            have hcz111_3 : wc.cell? ⟨gb344, 3, none⟩ = some (.int .i64 t337) := (blk_cell BK344.out 3).trans rfl
            have hcz111_4 : wc.cell? ⟨gb344, 4, none⟩ = some (.int .i64 t338) := (blk_cell BK344.out 4).trans rfl
            have hcz111_5 : wc.cell? ⟨gb344, 5, none⟩ = some (.int .i64 t339) := (blk_cell BK344.out 5).trans rfl
            have hcz111_6 : wc.cell? ⟨gb344, 6, none⟩ = some (.int .i64 t340) := (blk_cell BK344.out 6).trans rfl
            have hcz111_7 : wc.cell? ⟨gb344, 7, none⟩ = some (.int .i64 t341) := (blk_cell BK344.out 7).trans rfl
            have hcz111_8 : wc.cell? ⟨gb344, 8, none⟩ = some (.int .i64 t342) := (blk_cell BK344.out 8).trans rfl
            have hcz111_9 : wc.cell? ⟨gb344, 9, none⟩ = some (.int .i64 t343) := (blk_cell BK344.out 9).trans rfl
            have hfz111_0 := blk_frozen BK344.out 0
            have hfz111_1 := blk_frozen BK344.out 1
            have hfz111_2 := blk_frozen BK344.out 2
            have hfz111_3 := blk_frozen BK344.out 3
            have hfz111_4 := blk_frozen BK344.out 4
            have hfz111_5 := blk_frozen BK344.out 5
            have hfz111_6 := blk_frozen BK344.out 6
            have hfz111_7 := blk_frozen BK344.out 7
            have hfz111_8 := blk_frozen BK344.out 8
            have hfz111_9 := blk_frozen BK344.out 9
            go_wp2
            go_ret
            exact ⟨by first | rfl | (simp [errW_none, errW_some] <;> rfl) | (simp [*, errW_none, errW_some] <;> rfl), by repeat (first | (with_reducible first | exact HB.out | apply below_alloc | apply pw_below_drewN | apply below_drew1 | refine below_set ?_ GE344.out | refine below_set ?_ GE345.out | refine below_set ?_ GE346.out) | exact HB.out)⟩
           ·rw [if_neg c106] at H
            have c106b0 : decide ((rd t331 x8_1) < t336) = false := decide_eq_false c106
            clear c106
            by_cases c112 : (rd t331 x8_1) > t337
            ·rw [if_pos c112] at H
             have c112b0 : decide (t337 < (rd t331 x8_1)) = true := decide_eq_true c112
             clear c112
             obtain rfl := Option.some.inj H
             have hnb113 := NB346_344.out
             have hnc113 := NB344_346.out
             have hnb114 := NB346_345.out
             have hnc114 := NB345_346.out
             have hcz115_0 : wc.cell? ⟨gb346, 0, none⟩ = some (.int .i64 x347000_1) := (blk_cell BK346.out 0).trans rfl
             have hcz115_1 : wc.cell? ⟨gb346, 1, none⟩ = some (.int .i64 x347001_1) := (blk_cell BK346.out 1).trans rfl
             have hcz115_2 : wc.cell? ⟨gb346, 2, none⟩ = some (.int .i64 x347002_1) := (blk_cell BK346.out 2).trans rfl
             have hcz115_3 : wc.cell? ⟨gb346, 3, none⟩ = some (.int .i64 x347003_1) := (blk_cell BK346.out 3).trans rfl
             have hfz115_0 := blk_frozen BK346.out 0
             have hfz115_1 := blk_frozen BK346.out 1
             have hfz115_2 := blk_frozen BK346.out 2
             have hfz115_3 := blk_frozen BK346.out 3
             have hnb116 := NB344_345.out
             have hnc116 := NB345_344.out
             have hcz117_0 : wc.cell? ⟨gb344, 0, none⟩ = some (.int .i64 t334) := (blk_cell BK344.out 0).trans rfl
             have hcz117_1 : wc.cell? ⟨gb344, 1, none⟩ = some (.int .i64 t335) := (blk_cell BK344.out 1).trans rfl
             have hcz117_2 : wc.cell? ⟨gb344, 2, none⟩ = some (.int .i64 t336) := (blk_cell BK344.out 2).trans rfl
             have hcz117_3 : wc.cell? ⟨gb344, 3, none⟩ = some (.int .i64 t337) := (blk_cell BK344.out 3).trans rfl
             have hcz117_4 : wc.cell? ⟨gb344, 4, none⟩ = some (.int .i64 t338) := (blk_cell BK344.out 4).trans rfl
             have hcz117_5 : wc.cell? ⟨gb344, 5, none⟩ = some (.int .i64 t339) := (blk_cell BK344.out 5).trans rfl
             have hcz117_6 : wc.cell? ⟨gb344, 6, none⟩ = some (.int .i64 t340) := (blk_cell BK344.out 6).trans rfl
             have hcz117_7 : wc.cell? ⟨gb344, 7, none⟩ = some (.int .i64 t341) := (blk_cell BK344.out 7).trans rfl
             have hcz117_8 : wc.cell? ⟨gb344, 8, none⟩ = some (.int .i64 t342) := (blk_cell BK344.out 8).trans rfl
             have hcz117_9 : wc.cell? ⟨gb344, 9, none⟩ = some (.int .i64 t343) := (blk_cell BK344.out 9).trans rfl
             have hfz117_0 := blk_frozen BK344.out 0
             have hfz117_1 := blk_frozen BK344.out 1
             have hfz117_2 := blk_frozen BK344.out 2
             have hfz117_3 := blk_frozen BK344.out 3
             have hfz117_4 := blk_frozen BK344.out 4
             have hfz117_5 := blk_frozen BK344.out 5
             have hfz117_6 := blk_frozen BK344.out 6
             have hfz117_7 := blk_frozen BK344.out 7
             have hfz117_8 := blk_frozen BK344.out 8
             have hfz117_9 := blk_frozen BK344.out 9
             go_wp2
             go_ret
             exact ⟨by first | rfl | (simp [errW_none, errW_some] <;> rfl) | (simp [*, errW_none, errW_some] <;> rfl), by repeat (first | (with_reducible first | exact HB.out | apply below_alloc | apply pw_below_drewN | apply below_drew1 | refine below_set ?_ GE344.out | refine below_set ?_ GE345.out | refine below_set ?_ GE346.out) | exact HB.out)⟩
            ·rw [if_neg c112] at H
             have c112b0 : decide (t337 < (rd t331 x8_1)) = false := decide_eq_false c112
             clear c112
             have H' := Aside0.mk H
             clear H
             have hnb118 := NB346_344.out
             have hnc118 := NB344_346.out
             have hnb119 := NB346_345.out
             have hnc119 := NB345_346.out
             have hcz120_0 : wc.cell? ⟨gb346, 0, none⟩ = some (.int .i64 x347000_1) := (blk_cell BK346.out 0).trans rfl
             have hcz120_1 : wc.cell? ⟨gb346, 1, none⟩ = some (.int .i64 x347001_1) := (blk_cell BK346.out 1).trans rfl
             have hcz120_2 : wc.cell? ⟨gb346, 2, none⟩ = some (.int .i64 x347002_1) := (blk_cell BK346.out 2).trans rfl
             have hcz120_3 : wc.cell? ⟨gb346, 3, none⟩ = some (.int .i64 x347003_1) := (blk_cell BK346.out 3).trans rfl
             have hfz120_0 := blk_frozen BK346.out 0
             have hfz120_1 := blk_frozen BK346.out 1
             have hfz120_2 := blk_frozen BK346.out 2
             have hfz120_3 := blk_frozen BK346.out 3
             have hnb121 := NB344_345.out
             have hnc121 := NB345_344.out
             have hcz122_0 : wc.cell? ⟨gb344, 0, none⟩ = some (.int .i64 t334) := (blk_cell BK344.out 0).trans rfl
             have hcz122_1 : wc.cell? ⟨gb344, 1, none⟩ = some (.int .i64 t335) := (blk_cell BK344.out 1).trans rfl
             have hcz122_2 : wc.cell? ⟨gb344, 2, none⟩ = some (.int .i64 t336) := (blk_cell BK344.out 2).trans rfl
             have hcz122_3 : wc.cell? ⟨gb344, 3, none⟩ = some (.int .i64 t337) := (blk_cell BK344.out 3).trans rfl
             have hcz122_4 : wc.cell? ⟨gb344, 4, none⟩ = some (.int .i64 t338) := (blk_cell BK344.out 4).trans rfl
             have hcz122_5 : wc.cell? ⟨gb344, 5, none⟩ = some (.int .i64 t339) := (blk_cell BK344.out 5).trans rfl
             have hcz122_6 : wc.cell? ⟨gb344, 6, none⟩ = some (.int .i64 t340) := (blk_cell BK344.out 6).trans rfl
             have hcz122_7 : wc.cell? ⟨gb344, 7, none⟩ = some (.int .i64 t341) := (blk_cell BK344.out 7).trans rfl
             have hcz122_8 : wc.cell? ⟨gb344, 8, none⟩ = some (.int .i64 t342) := (blk_cell BK344.out 8).trans rfl
             have hcz122_9 : wc.cell? ⟨gb344, 9, none⟩ = some (.int .i64 t343) := (blk_cell BK344.out 9).trans rfl
             have hfz122_0 := blk_frozen BK344.out 0
             have hfz122_1 := blk_frozen BK344.out 1
             have hfz122_2 := blk_frozen BK344.out 2
             have hfz122_3 := blk_frozen BK344.out 3
             have hfz122_4 := blk_frozen BK344.out 4
             have hfz122_5 := blk_frozen BK344.out 5
             have hfz122_6 := blk_frozen BK344.out 6
             have hfz122_7 := blk_frozen BK344.out 7
             have hfz122_8 := blk_frozen BK344.out 8
             have hfz122_9 := blk_frozen BK344.out 9
             go_wp2
             go_roundg kj12
             case measure => have := HK1.out; have := HJ12.out; omega
             case rel => exact ⟨(true), (true), (wrap64 (x8_1 + 1)), (x346000_12), (x346001_12), (x346002_12), (x346003_12), (x347000_1), (wrap64 (x347001_1 + 1)), (x347002_1), (x347003_1), (by first | rfl | (simp; done) | (simp [*]; done) | (simp [wrap64]; done)), (by first | rfl | (simp; done) | (simp [*]; done) | (simp [wrap64]; done)), (by first | rfl | (simp; done) | (simp [*]; done) | (simp [wrap64]; done)), H', ⟨by have := HK1.out; have := HJ12.out; omega⟩, ⟨by (with_reducible repeat (first | apply Kd.V_alloc | apply Kd.V_drewN | apply Kd.V_drew)); exact Kd.V_mono (Kd.V_far (p := ⟨gb346, 1, none⟩) (Kd.V_mono HO_0.out (fun k_ hk => (⟨hk, hk.2.2⟩ : _ ∧ k_ ≠ gb346))) (fun _ hk => hk.2) (.int .i64 (wrap64 (x347001_1 + 1)))) (fun _ hk => ⟨hk.1.1, ⟨hk.1.2.1, hk.1.2.2⟩⟩)⟩, ⟨by (with_reducible repeat (first | refine blk_drewN ?_ _ | refine blk_drew ?_ | refine blk_alloc ?_ _)); refine blk_far ?_ NB344_346.out _; (with_reducible repeat (first | refine blk_drewN ?_ _ | refine blk_drew ?_ | refine blk_alloc ?_ _)); exact BK344.out⟩, ⟨by (with_reducible repeat (first | refine blk_drewN ?_ _ | refine blk_drew ?_ | refine blk_alloc ?_ _)); refine blk_far ?_ NB345_346.out _; (with_reducible repeat (first | refine blk_drewN ?_ _ | refine blk_drew ?_ | refine blk_alloc ?_ _)); exact BK345.out⟩, ⟨by (with_reducible repeat (first | refine blk_drewN ?_ _ | refine blk_drew ?_ | refine blk_alloc ?_ _)); refine blk_put (cs := #[.int .i64 x347000_1, .int .i64 x347001_1, .int .i64 x347002_1, .int .i64 x347003_1]) ?_ 1 _ rfl; (with_reducible repeat (first | refine blk_drewN ?_ _ | refine blk_drew ?_ | refine blk_alloc ?_ _)); exact BK346.out⟩, ⟨by repeat (first | (with_reducible first | exact HB.out | apply below_alloc | apply pw_below_drewN | apply below_drew1 | refine below_set ?_ GE344.out | refine below_set ?_ GE345.out | refine below_set ?_ GE346.out) | exact HB.out)⟩⟩
          ·replace c105 := Bool.eq_false_iff.mpr c105
           subst c105
           have H1 : (if (rd t331 x8_1) < t336 then (some false) else (if (rd t331 x8_1) > t337 then (some false) else (headgatelaw15_FoldCounts.l0 kj12 t331 true ((rd t331 x8_1) == t337) (wrap64 (x8_1 + 1)) t334 t335 t336 t337 t338 t339 t340 t341 t342 t343 x346000_12 x346001_12 x346002_12 x346003_12 x347000_1 (wrap64 (x347001_1 + 1)) x347002_1 x347003_1))) = some r := by rw [if_neg (show ¬ (false = true) by decide)] at H; exact H
           clear H
           have H := H1
           clear H1
           by_cases c123 : (rd t331 x8_1) < t336
           ·rw [if_pos c123] at H
            have c123b0 : decide ((rd t331 x8_1) < t336) = true := decide_eq_true c123
            clear c123
            obtain rfl := Option.some.inj H
            have hnb124 := NB346_344.out
            have hnc124 := NB344_346.out
            have hnb125 := NB346_345.out
            have hnc125 := NB345_346.out
            have hcz126_0 : wc.cell? ⟨gb346, 0, none⟩ = some (.int .i64 x347000_1) := (blk_cell BK346.out 0).trans rfl
            have hcz126_1 : wc.cell? ⟨gb346, 1, none⟩ = some (.int .i64 x347001_1) := (blk_cell BK346.out 1).trans rfl
            have hcz126_2 : wc.cell? ⟨gb346, 2, none⟩ = some (.int .i64 x347002_1) := (blk_cell BK346.out 2).trans rfl
            have hcz126_3 : wc.cell? ⟨gb346, 3, none⟩ = some (.int .i64 x347003_1) := (blk_cell BK346.out 3).trans rfl
            have hfz126_0 := blk_frozen BK346.out 0
            have hfz126_1 := blk_frozen BK346.out 1
            have hfz126_2 := blk_frozen BK346.out 2
            have hfz126_3 := blk_frozen BK346.out 3
            have hnb127 := NB344_345.out
            have hnc127 := NB345_344.out
            have hcz128_0 : wc.cell? ⟨gb344, 0, none⟩ = some (.int .i64 t334) := (blk_cell BK344.out 0).trans rfl
            have hcz128_1 : wc.cell? ⟨gb344, 1, none⟩ = some (.int .i64 t335) := (blk_cell BK344.out 1).trans rfl
            have hcz128_2 : wc.cell? ⟨gb344, 2, none⟩ = some (.int .i64 t336) := (blk_cell BK344.out 2).trans rfl
            have hcz128_3 : wc.cell? ⟨gb344, 3, none⟩ = some (.int .i64 t337) := (blk_cell BK344.out 3).trans rfl
            have hcz128_4 : wc.cell? ⟨gb344, 4, none⟩ = some (.int .i64 t338) := (blk_cell BK344.out 4).trans rfl
            have hcz128_5 : wc.cell? ⟨gb344, 5, none⟩ = some (.int .i64 t339) := (blk_cell BK344.out 5).trans rfl
            have hcz128_6 : wc.cell? ⟨gb344, 6, none⟩ = some (.int .i64 t340) := (blk_cell BK344.out 6).trans rfl
            have hcz128_7 : wc.cell? ⟨gb344, 7, none⟩ = some (.int .i64 t341) := (blk_cell BK344.out 7).trans rfl
            have hcz128_8 : wc.cell? ⟨gb344, 8, none⟩ = some (.int .i64 t342) := (blk_cell BK344.out 8).trans rfl
            have hcz128_9 : wc.cell? ⟨gb344, 9, none⟩ = some (.int .i64 t343) := (blk_cell BK344.out 9).trans rfl
            have hfz128_0 := blk_frozen BK344.out 0
            have hfz128_1 := blk_frozen BK344.out 1
            have hfz128_2 := blk_frozen BK344.out 2
            have hfz128_3 := blk_frozen BK344.out 3
            have hfz128_4 := blk_frozen BK344.out 4
            have hfz128_5 := blk_frozen BK344.out 5
            have hfz128_6 := blk_frozen BK344.out 6
            have hfz128_7 := blk_frozen BK344.out 7
            have hfz128_8 := blk_frozen BK344.out 8
            have hfz128_9 := blk_frozen BK344.out 9
            go_wp2
            go_ret
            exact ⟨by first | rfl | (simp [errW_none, errW_some] <;> rfl) | (simp [*, errW_none, errW_some] <;> rfl), by repeat (first | (with_reducible first | exact HB.out | apply below_alloc | apply pw_below_drewN | apply below_drew1 | refine below_set ?_ GE344.out | refine below_set ?_ GE345.out | refine below_set ?_ GE346.out) | exact HB.out)⟩
           ·rw [if_neg c123] at H
            have c123b0 : decide ((rd t331 x8_1) < t336) = false := decide_eq_false c123
            clear c123
            by_cases c129 : (rd t331 x8_1) > t337
            ·rw [if_pos c129] at H
             have c129b0 : decide (t337 < (rd t331 x8_1)) = true := decide_eq_true c129
             clear c129
             obtain rfl := Option.some.inj H
             have hnb130 := NB346_344.out
             have hnc130 := NB344_346.out
             have hnb131 := NB346_345.out
             have hnc131 := NB345_346.out
             have hcz132_0 : wc.cell? ⟨gb346, 0, none⟩ = some (.int .i64 x347000_1) := (blk_cell BK346.out 0).trans rfl
             have hcz132_1 : wc.cell? ⟨gb346, 1, none⟩ = some (.int .i64 x347001_1) := (blk_cell BK346.out 1).trans rfl
             have hcz132_2 : wc.cell? ⟨gb346, 2, none⟩ = some (.int .i64 x347002_1) := (blk_cell BK346.out 2).trans rfl
             have hcz132_3 : wc.cell? ⟨gb346, 3, none⟩ = some (.int .i64 x347003_1) := (blk_cell BK346.out 3).trans rfl
             have hfz132_0 := blk_frozen BK346.out 0
             have hfz132_1 := blk_frozen BK346.out 1
             have hfz132_2 := blk_frozen BK346.out 2
             have hfz132_3 := blk_frozen BK346.out 3
             have hnb133 := NB344_345.out
             have hnc133 := NB345_344.out
             have hcz134_0 : wc.cell? ⟨gb344, 0, none⟩ = some (.int .i64 t334) := (blk_cell BK344.out 0).trans rfl
             have hcz134_1 : wc.cell? ⟨gb344, 1, none⟩ = some (.int .i64 t335) := (blk_cell BK344.out 1).trans rfl
             have hcz134_2 : wc.cell? ⟨gb344, 2, none⟩ = some (.int .i64 t336) := (blk_cell BK344.out 2).trans rfl
             have hcz134_3 : wc.cell? ⟨gb344, 3, none⟩ = some (.int .i64 t337) := (blk_cell BK344.out 3).trans rfl
             have hcz134_4 : wc.cell? ⟨gb344, 4, none⟩ = some (.int .i64 t338) := (blk_cell BK344.out 4).trans rfl
             have hcz134_5 : wc.cell? ⟨gb344, 5, none⟩ = some (.int .i64 t339) := (blk_cell BK344.out 5).trans rfl
             have hcz134_6 : wc.cell? ⟨gb344, 6, none⟩ = some (.int .i64 t340) := (blk_cell BK344.out 6).trans rfl
             have hcz134_7 : wc.cell? ⟨gb344, 7, none⟩ = some (.int .i64 t341) := (blk_cell BK344.out 7).trans rfl
             have hcz134_8 : wc.cell? ⟨gb344, 8, none⟩ = some (.int .i64 t342) := (blk_cell BK344.out 8).trans rfl
             have hcz134_9 : wc.cell? ⟨gb344, 9, none⟩ = some (.int .i64 t343) := (blk_cell BK344.out 9).trans rfl
             have hfz134_0 := blk_frozen BK344.out 0
             have hfz134_1 := blk_frozen BK344.out 1
             have hfz134_2 := blk_frozen BK344.out 2
             have hfz134_3 := blk_frozen BK344.out 3
             have hfz134_4 := blk_frozen BK344.out 4
             have hfz134_5 := blk_frozen BK344.out 5
             have hfz134_6 := blk_frozen BK344.out 6
             have hfz134_7 := blk_frozen BK344.out 7
             have hfz134_8 := blk_frozen BK344.out 8
             have hfz134_9 := blk_frozen BK344.out 9
             go_wp2
             go_ret
             exact ⟨by first | rfl | (simp [errW_none, errW_some] <;> rfl) | (simp [*, errW_none, errW_some] <;> rfl), by repeat (first | (with_reducible first | exact HB.out | apply below_alloc | apply pw_below_drewN | apply below_drew1 | refine below_set ?_ GE344.out | refine below_set ?_ GE345.out | refine below_set ?_ GE346.out) | exact HB.out)⟩
            ·rw [if_neg c129] at H
             have c129b0 : decide (t337 < (rd t331 x8_1)) = false := decide_eq_false c129
             clear c129
             have H' := Aside0.mk H
             clear H
             have hnb135 := NB346_344.out
             have hnc135 := NB344_346.out
             have hnb136 := NB346_345.out
             have hnc136 := NB345_346.out
             have hcz137_0 : wc.cell? ⟨gb346, 0, none⟩ = some (.int .i64 x347000_1) := (blk_cell BK346.out 0).trans rfl
             have hcz137_1 : wc.cell? ⟨gb346, 1, none⟩ = some (.int .i64 x347001_1) := (blk_cell BK346.out 1).trans rfl
             have hcz137_2 : wc.cell? ⟨gb346, 2, none⟩ = some (.int .i64 x347002_1) := (blk_cell BK346.out 2).trans rfl
             have hcz137_3 : wc.cell? ⟨gb346, 3, none⟩ = some (.int .i64 x347003_1) := (blk_cell BK346.out 3).trans rfl
             have hfz137_0 := blk_frozen BK346.out 0
             have hfz137_1 := blk_frozen BK346.out 1
             have hfz137_2 := blk_frozen BK346.out 2
             have hfz137_3 := blk_frozen BK346.out 3
             have hnb138 := NB344_345.out
             have hnc138 := NB345_344.out
             have hcz139_0 : wc.cell? ⟨gb344, 0, none⟩ = some (.int .i64 t334) := (blk_cell BK344.out 0).trans rfl
             have hcz139_1 : wc.cell? ⟨gb344, 1, none⟩ = some (.int .i64 t335) := (blk_cell BK344.out 1).trans rfl
             have hcz139_2 : wc.cell? ⟨gb344, 2, none⟩ = some (.int .i64 t336) := (blk_cell BK344.out 2).trans rfl
             have hcz139_3 : wc.cell? ⟨gb344, 3, none⟩ = some (.int .i64 t337) := (blk_cell BK344.out 3).trans rfl
             have hcz139_4 : wc.cell? ⟨gb344, 4, none⟩ = some (.int .i64 t338) := (blk_cell BK344.out 4).trans rfl
             have hcz139_5 : wc.cell? ⟨gb344, 5, none⟩ = some (.int .i64 t339) := (blk_cell BK344.out 5).trans rfl
             have hcz139_6 : wc.cell? ⟨gb344, 6, none⟩ = some (.int .i64 t340) := (blk_cell BK344.out 6).trans rfl
             have hcz139_7 : wc.cell? ⟨gb344, 7, none⟩ = some (.int .i64 t341) := (blk_cell BK344.out 7).trans rfl
             have hcz139_8 : wc.cell? ⟨gb344, 8, none⟩ = some (.int .i64 t342) := (blk_cell BK344.out 8).trans rfl
             have hcz139_9 : wc.cell? ⟨gb344, 9, none⟩ = some (.int .i64 t343) := (blk_cell BK344.out 9).trans rfl
             have hfz139_0 := blk_frozen BK344.out 0
             have hfz139_1 := blk_frozen BK344.out 1
             have hfz139_2 := blk_frozen BK344.out 2
             have hfz139_3 := blk_frozen BK344.out 3
             have hfz139_4 := blk_frozen BK344.out 4
             have hfz139_5 := blk_frozen BK344.out 5
             have hfz139_6 := blk_frozen BK344.out 6
             have hfz139_7 := blk_frozen BK344.out 7
             have hfz139_8 := blk_frozen BK344.out 8
             have hfz139_9 := blk_frozen BK344.out 9
             go_wp2
             go_roundg kj12
             case measure => have := HK1.out; have := HJ12.out; omega
             case rel => exact ⟨(true), (((rd t331 x8_1) == t337)), (wrap64 (x8_1 + 1)), (x346000_12), (x346001_12), (x346002_12), (x346003_12), (x347000_1), (wrap64 (x347001_1 + 1)), (x347002_1), (x347003_1), (by first | rfl | (simp; done) | (simp [*]; done) | (simp [wrap64]; done)), (by first | rfl | (simp; done) | (simp [*]; done) | (simp [wrap64]; done)), (by first | rfl | (simp; done) | (simp [*]; done) | (simp [wrap64]; done)), H', ⟨by have := HK1.out; have := HJ12.out; omega⟩, ⟨by (with_reducible repeat (first | apply Kd.V_alloc | apply Kd.V_drewN | apply Kd.V_drew)); exact Kd.V_mono (Kd.V_far (p := ⟨gb346, 1, none⟩) (Kd.V_mono HO_0.out (fun k_ hk => (⟨hk, hk.2.2⟩ : _ ∧ k_ ≠ gb346))) (fun _ hk => hk.2) (.int .i64 (wrap64 (x347001_1 + 1)))) (fun _ hk => ⟨hk.1.1, ⟨hk.1.2.1, hk.1.2.2⟩⟩)⟩, ⟨by (with_reducible repeat (first | refine blk_drewN ?_ _ | refine blk_drew ?_ | refine blk_alloc ?_ _)); refine blk_far ?_ NB344_346.out _; (with_reducible repeat (first | refine blk_drewN ?_ _ | refine blk_drew ?_ | refine blk_alloc ?_ _)); exact BK344.out⟩, ⟨by (with_reducible repeat (first | refine blk_drewN ?_ _ | refine blk_drew ?_ | refine blk_alloc ?_ _)); refine blk_far ?_ NB345_346.out _; (with_reducible repeat (first | refine blk_drewN ?_ _ | refine blk_drew ?_ | refine blk_alloc ?_ _)); exact BK345.out⟩, ⟨by (with_reducible repeat (first | refine blk_drewN ?_ _ | refine blk_drew ?_ | refine blk_alloc ?_ _)); refine blk_put (cs := #[.int .i64 x347000_1, .int .i64 x347001_1, .int .i64 x347002_1, .int .i64 x347003_1]) ?_ 1 _ rfl; (with_reducible repeat (first | refine blk_drewN ?_ _ | refine blk_drew ?_ | refine blk_alloc ?_ _)); exact BK346.out⟩, ⟨by repeat (first | (with_reducible first | exact HB.out | apply below_alloc | apply pw_below_drewN | apply below_drew1 | refine below_set ?_ GE344.out | refine below_set ?_ GE345.out | refine below_set ?_ GE346.out) | exact HB.out)⟩⟩
         ·replace c104 := Bool.eq_false_iff.mpr c104
          subst c104
          have H1 : (if x7_1 = true then (if (rd t331 x8_1) < t336 then (some false) else (if (rd t331 x8_1) > t337 then (some false) else (headgatelaw15_FoldCounts.l0 kj12 t331 ((rd t331 x8_1) == t336) true (wrap64 (x8_1 + 1)) t334 t335 t336 t337 t338 t339 t340 t341 t342 t343 x346000_12 x346001_12 x346002_12 x346003_12 x347000_1 (wrap64 (x347001_1 + 1)) x347002_1 x347003_1))) else (if (rd t331 x8_1) < t336 then (some false) else (if (rd t331 x8_1) > t337 then (some false) else (headgatelaw15_FoldCounts.l0 kj12 t331 ((rd t331 x8_1) == t336) ((rd t331 x8_1) == t337) (wrap64 (x8_1 + 1)) t334 t335 t336 t337 t338 t339 t340 t341 t342 t343 x346000_12 x346001_12 x346002_12 x346003_12 x347000_1 (wrap64 (x347001_1 + 1)) x347002_1 x347003_1)))) = some r := by rw [if_neg (show ¬ (false = true) by decide)] at H; exact H
          clear H
          have H := H1
          clear H1
          by_cases c140 : x7_1 = true
          ·subst c140
           have H1 : (if (rd t331 x8_1) < t336 then (some false) else (if (rd t331 x8_1) > t337 then (some false) else (headgatelaw15_FoldCounts.l0 kj12 t331 ((rd t331 x8_1) == t336) true (wrap64 (x8_1 + 1)) t334 t335 t336 t337 t338 t339 t340 t341 t342 t343 x346000_12 x346001_12 x346002_12 x346003_12 x347000_1 (wrap64 (x347001_1 + 1)) x347002_1 x347003_1))) = some r := by rw [if_pos rfl] at H; exact H
           clear H
           have H := H1
           clear H1
           by_cases c141 : (rd t331 x8_1) < t336
           ·rw [if_pos c141] at H
            have c141b0 : decide ((rd t331 x8_1) < t336) = true := decide_eq_true c141
            clear c141
            obtain rfl := Option.some.inj H
            have hnb142 := NB346_344.out
            have hnc142 := NB344_346.out
            have hnb143 := NB346_345.out
            have hnc143 := NB345_346.out
            have hcz144_0 : wc.cell? ⟨gb346, 0, none⟩ = some (.int .i64 x347000_1) := (blk_cell BK346.out 0).trans rfl
            have hcz144_1 : wc.cell? ⟨gb346, 1, none⟩ = some (.int .i64 x347001_1) := (blk_cell BK346.out 1).trans rfl
            have hcz144_2 : wc.cell? ⟨gb346, 2, none⟩ = some (.int .i64 x347002_1) := (blk_cell BK346.out 2).trans rfl
            have hcz144_3 : wc.cell? ⟨gb346, 3, none⟩ = some (.int .i64 x347003_1) := (blk_cell BK346.out 3).trans rfl
            have hfz144_0 := blk_frozen BK346.out 0
            have hfz144_1 := blk_frozen BK346.out 1
            have hfz144_2 := blk_frozen BK346.out 2
            have hfz144_3 := blk_frozen BK346.out 3
            have hnb145 := NB344_345.out
            have hnc145 := NB345_344.out
            have hcz146_0 : wc.cell? ⟨gb344, 0, none⟩ = some (.int .i64 t334) := (blk_cell BK344.out 0).trans rfl
            have hcz146_1 : wc.cell? ⟨gb344, 1, none⟩ = some (.int .i64 t335) := (blk_cell BK344.out 1).trans rfl
            have hcz146_2 : wc.cell? ⟨gb344, 2, none⟩ = some (.int .i64 t336) := (blk_cell BK344.out 2).trans rfl
            have hcz146_3 : wc.cell? ⟨gb344, 3, none⟩ = some (.int .i64 t337) := (blk_cell BK344.out 3).trans rfl
            have hcz146_4 : wc.cell? ⟨gb344, 4, none⟩ = some (.int .i64 t338) := (blk_cell BK344.out 4).trans rfl
            have hcz146_5 : wc.cell? ⟨gb344, 5, none⟩ = some (.int .i64 t339) := (blk_cell BK344.out 5).trans rfl
            have hcz146_6 : wc.cell? ⟨gb344, 6, none⟩ = some (.int .i64 t340) := (blk_cell BK344.out 6).trans rfl
            have hcz146_7 : wc.cell? ⟨gb344, 7, none⟩ = some (.int .i64 t341) := (blk_cell BK344.out 7).trans rfl
            have hcz146_8 : wc.cell? ⟨gb344, 8, none⟩ = some (.int .i64 t342) := (blk_cell BK344.out 8).trans rfl
            have hcz146_9 : wc.cell? ⟨gb344, 9, none⟩ = some (.int .i64 t343) := (blk_cell BK344.out 9).trans rfl
            have hfz146_0 := blk_frozen BK344.out 0
            have hfz146_1 := blk_frozen BK344.out 1
            have hfz146_2 := blk_frozen BK344.out 2
            have hfz146_3 := blk_frozen BK344.out 3
            have hfz146_4 := blk_frozen BK344.out 4
            have hfz146_5 := blk_frozen BK344.out 5
            have hfz146_6 := blk_frozen BK344.out 6
            have hfz146_7 := blk_frozen BK344.out 7
            have hfz146_8 := blk_frozen BK344.out 8
            have hfz146_9 := blk_frozen BK344.out 9
            go_wp2
            go_ret
            exact ⟨by first | rfl | (simp [errW_none, errW_some] <;> rfl) | (simp [*, errW_none, errW_some] <;> rfl), by repeat (first | (with_reducible first | exact HB.out | apply below_alloc | apply pw_below_drewN | apply below_drew1 | refine below_set ?_ GE344.out | refine below_set ?_ GE345.out | refine below_set ?_ GE346.out) | exact HB.out)⟩
           ·rw [if_neg c141] at H
            have c141b0 : decide ((rd t331 x8_1) < t336) = false := decide_eq_false c141
            clear c141
            by_cases c147 : (rd t331 x8_1) > t337
            ·rw [if_pos c147] at H
             have c147b0 : decide (t337 < (rd t331 x8_1)) = true := decide_eq_true c147
             clear c147
             obtain rfl := Option.some.inj H
             have hnb148 := NB346_344.out
             have hnc148 := NB344_346.out
             have hnb149 := NB346_345.out
             have hnc149 := NB345_346.out
             have hcz150_0 : wc.cell? ⟨gb346, 0, none⟩ = some (.int .i64 x347000_1) := (blk_cell BK346.out 0).trans rfl
             have hcz150_1 : wc.cell? ⟨gb346, 1, none⟩ = some (.int .i64 x347001_1) := (blk_cell BK346.out 1).trans rfl
             have hcz150_2 : wc.cell? ⟨gb346, 2, none⟩ = some (.int .i64 x347002_1) := (blk_cell BK346.out 2).trans rfl
             have hcz150_3 : wc.cell? ⟨gb346, 3, none⟩ = some (.int .i64 x347003_1) := (blk_cell BK346.out 3).trans rfl
             have hfz150_0 := blk_frozen BK346.out 0
             have hfz150_1 := blk_frozen BK346.out 1
             have hfz150_2 := blk_frozen BK346.out 2
             have hfz150_3 := blk_frozen BK346.out 3
             have hnb151 := NB344_345.out
             have hnc151 := NB345_344.out
             have hcz152_0 : wc.cell? ⟨gb344, 0, none⟩ = some (.int .i64 t334) := (blk_cell BK344.out 0).trans rfl
             have hcz152_1 : wc.cell? ⟨gb344, 1, none⟩ = some (.int .i64 t335) := (blk_cell BK344.out 1).trans rfl
             have hcz152_2 : wc.cell? ⟨gb344, 2, none⟩ = some (.int .i64 t336) := (blk_cell BK344.out 2).trans rfl
             have hcz152_3 : wc.cell? ⟨gb344, 3, none⟩ = some (.int .i64 t337) := (blk_cell BK344.out 3).trans rfl
             have hcz152_4 : wc.cell? ⟨gb344, 4, none⟩ = some (.int .i64 t338) := (blk_cell BK344.out 4).trans rfl
             have hcz152_5 : wc.cell? ⟨gb344, 5, none⟩ = some (.int .i64 t339) := (blk_cell BK344.out 5).trans rfl
             have hcz152_6 : wc.cell? ⟨gb344, 6, none⟩ = some (.int .i64 t340) := (blk_cell BK344.out 6).trans rfl
             have hcz152_7 : wc.cell? ⟨gb344, 7, none⟩ = some (.int .i64 t341) := (blk_cell BK344.out 7).trans rfl
             have hcz152_8 : wc.cell? ⟨gb344, 8, none⟩ = some (.int .i64 t342) := (blk_cell BK344.out 8).trans rfl
             have hcz152_9 : wc.cell? ⟨gb344, 9, none⟩ = some (.int .i64 t343) := (blk_cell BK344.out 9).trans rfl
             have hfz152_0 := blk_frozen BK344.out 0
             have hfz152_1 := blk_frozen BK344.out 1
             have hfz152_2 := blk_frozen BK344.out 2
             have hfz152_3 := blk_frozen BK344.out 3
             have hfz152_4 := blk_frozen BK344.out 4
             have hfz152_5 := blk_frozen BK344.out 5
             have hfz152_6 := blk_frozen BK344.out 6
             have hfz152_7 := blk_frozen BK344.out 7
             have hfz152_8 := blk_frozen BK344.out 8
             have hfz152_9 := blk_frozen BK344.out 9
             go_wp2
             go_ret
             exact ⟨by first | rfl | (simp [errW_none, errW_some] <;> rfl) | (simp [*, errW_none, errW_some] <;> rfl), by repeat (first | (with_reducible first | exact HB.out | apply below_alloc | apply pw_below_drewN | apply below_drew1 | refine below_set ?_ GE344.out | refine below_set ?_ GE345.out | refine below_set ?_ GE346.out) | exact HB.out)⟩
            ·rw [if_neg c147] at H
             have c147b0 : decide (t337 < (rd t331 x8_1)) = false := decide_eq_false c147
             clear c147
             have H' := Aside0.mk H
             clear H
             have hnb153 := NB346_344.out
             have hnc153 := NB344_346.out
             have hnb154 := NB346_345.out
             have hnc154 := NB345_346.out
             have hcz155_0 : wc.cell? ⟨gb346, 0, none⟩ = some (.int .i64 x347000_1) := (blk_cell BK346.out 0).trans rfl
             have hcz155_1 : wc.cell? ⟨gb346, 1, none⟩ = some (.int .i64 x347001_1) := (blk_cell BK346.out 1).trans rfl
             have hcz155_2 : wc.cell? ⟨gb346, 2, none⟩ = some (.int .i64 x347002_1) := (blk_cell BK346.out 2).trans rfl
             have hcz155_3 : wc.cell? ⟨gb346, 3, none⟩ = some (.int .i64 x347003_1) := (blk_cell BK346.out 3).trans rfl
             have hfz155_0 := blk_frozen BK346.out 0
             have hfz155_1 := blk_frozen BK346.out 1
             have hfz155_2 := blk_frozen BK346.out 2
             have hfz155_3 := blk_frozen BK346.out 3
             have hnb156 := NB344_345.out
             have hnc156 := NB345_344.out
             have hcz157_0 : wc.cell? ⟨gb344, 0, none⟩ = some (.int .i64 t334) := (blk_cell BK344.out 0).trans rfl
             have hcz157_1 : wc.cell? ⟨gb344, 1, none⟩ = some (.int .i64 t335) := (blk_cell BK344.out 1).trans rfl
             have hcz157_2 : wc.cell? ⟨gb344, 2, none⟩ = some (.int .i64 t336) := (blk_cell BK344.out 2).trans rfl
             have hcz157_3 : wc.cell? ⟨gb344, 3, none⟩ = some (.int .i64 t337) := (blk_cell BK344.out 3).trans rfl
             have hcz157_4 : wc.cell? ⟨gb344, 4, none⟩ = some (.int .i64 t338) := (blk_cell BK344.out 4).trans rfl
             have hcz157_5 : wc.cell? ⟨gb344, 5, none⟩ = some (.int .i64 t339) := (blk_cell BK344.out 5).trans rfl
             have hcz157_6 : wc.cell? ⟨gb344, 6, none⟩ = some (.int .i64 t340) := (blk_cell BK344.out 6).trans rfl
             have hcz157_7 : wc.cell? ⟨gb344, 7, none⟩ = some (.int .i64 t341) := (blk_cell BK344.out 7).trans rfl
             have hcz157_8 : wc.cell? ⟨gb344, 8, none⟩ = some (.int .i64 t342) := (blk_cell BK344.out 8).trans rfl
             have hcz157_9 : wc.cell? ⟨gb344, 9, none⟩ = some (.int .i64 t343) := (blk_cell BK344.out 9).trans rfl
             have hfz157_0 := blk_frozen BK344.out 0
             have hfz157_1 := blk_frozen BK344.out 1
             have hfz157_2 := blk_frozen BK344.out 2
             have hfz157_3 := blk_frozen BK344.out 3
             have hfz157_4 := blk_frozen BK344.out 4
             have hfz157_5 := blk_frozen BK344.out 5
             have hfz157_6 := blk_frozen BK344.out 6
             have hfz157_7 := blk_frozen BK344.out 7
             have hfz157_8 := blk_frozen BK344.out 8
             have hfz157_9 := blk_frozen BK344.out 9
             go_wp2
             go_roundg kj12
             case measure => have := HK1.out; have := HJ12.out; omega
             case rel => exact ⟨(((rd t331 x8_1) == t336)), (true), (wrap64 (x8_1 + 1)), (x346000_12), (x346001_12), (x346002_12), (x346003_12), (x347000_1), (wrap64 (x347001_1 + 1)), (x347002_1), (x347003_1), (by first | rfl | (simp; done) | (simp [*]; done) | (simp [wrap64]; done)), (by first | rfl | (simp; done) | (simp [*]; done) | (simp [wrap64]; done)), (by first | rfl | (simp; done) | (simp [*]; done) | (simp [wrap64]; done)), H', ⟨by have := HK1.out; have := HJ12.out; omega⟩, ⟨by (with_reducible repeat (first | apply Kd.V_alloc | apply Kd.V_drewN | apply Kd.V_drew)); exact Kd.V_mono (Kd.V_far (p := ⟨gb346, 1, none⟩) (Kd.V_mono HO_0.out (fun k_ hk => (⟨hk, hk.2.2⟩ : _ ∧ k_ ≠ gb346))) (fun _ hk => hk.2) (.int .i64 (wrap64 (x347001_1 + 1)))) (fun _ hk => ⟨hk.1.1, ⟨hk.1.2.1, hk.1.2.2⟩⟩)⟩, ⟨by (with_reducible repeat (first | refine blk_drewN ?_ _ | refine blk_drew ?_ | refine blk_alloc ?_ _)); refine blk_far ?_ NB344_346.out _; (with_reducible repeat (first | refine blk_drewN ?_ _ | refine blk_drew ?_ | refine blk_alloc ?_ _)); exact BK344.out⟩, ⟨by (with_reducible repeat (first | refine blk_drewN ?_ _ | refine blk_drew ?_ | refine blk_alloc ?_ _)); refine blk_far ?_ NB345_346.out _; (with_reducible repeat (first | refine blk_drewN ?_ _ | refine blk_drew ?_ | refine blk_alloc ?_ _)); exact BK345.out⟩, ⟨by (with_reducible repeat (first | refine blk_drewN ?_ _ | refine blk_drew ?_ | refine blk_alloc ?_ _)); refine blk_put (cs := #[.int .i64 x347000_1, .int .i64 x347001_1, .int .i64 x347002_1, .int .i64 x347003_1]) ?_ 1 _ rfl; (with_reducible repeat (first | refine blk_drewN ?_ _ | refine blk_drew ?_ | refine blk_alloc ?_ _)); exact BK346.out⟩, ⟨by repeat (first | (with_reducible first | exact HB.out | apply below_alloc | apply pw_below_drewN | apply below_drew1 | refine below_set ?_ GE344.out | refine below_set ?_ GE345.out | refine below_set ?_ GE346.out) | exact HB.out)⟩⟩
          ·replace c140 := Bool.eq_false_iff.mpr c140
           subst c140
           have H1 : (if (rd t331 x8_1) < t336 then (some false) else (if (rd t331 x8_1) > t337 then (some false) else (headgatelaw15_FoldCounts.l0 kj12 t331 ((rd t331 x8_1) == t336) ((rd t331 x8_1) == t337) (wrap64 (x8_1 + 1)) t334 t335 t336 t337 t338 t339 t340 t341 t342 t343 x346000_12 x346001_12 x346002_12 x346003_12 x347000_1 (wrap64 (x347001_1 + 1)) x347002_1 x347003_1))) = some r := by rw [if_neg (show ¬ (false = true) by decide)] at H; exact H
           clear H
           have H := H1
           clear H1
           by_cases c158 : (rd t331 x8_1) < t336
           ·rw [if_pos c158] at H
            have c158b0 : decide ((rd t331 x8_1) < t336) = true := decide_eq_true c158
            clear c158
            obtain rfl := Option.some.inj H
            have hnb159 := NB346_344.out
            have hnc159 := NB344_346.out
            have hnb160 := NB346_345.out
            have hnc160 := NB345_346.out
            have hcz161_0 : wc.cell? ⟨gb346, 0, none⟩ = some (.int .i64 x347000_1) := (blk_cell BK346.out 0).trans rfl
            have hcz161_1 : wc.cell? ⟨gb346, 1, none⟩ = some (.int .i64 x347001_1) := (blk_cell BK346.out 1).trans rfl
            have hcz161_2 : wc.cell? ⟨gb346, 2, none⟩ = some (.int .i64 x347002_1) := (blk_cell BK346.out 2).trans rfl
            have hcz161_3 : wc.cell? ⟨gb346, 3, none⟩ = some (.int .i64 x347003_1) := (blk_cell BK346.out 3).trans rfl
            have hfz161_0 := blk_frozen BK346.out 0
            have hfz161_1 := blk_frozen BK346.out 1
            have hfz161_2 := blk_frozen BK346.out 2
            have hfz161_3 := blk_frozen BK346.out 3
            have hnb162 := NB344_345.out
            have hnc162 := NB345_344.out
            have hcz163_0 : wc.cell? ⟨gb344, 0, none⟩ = some (.int .i64 t334) := (blk_cell BK344.out 0).trans rfl
            have hcz163_1 : wc.cell? ⟨gb344, 1, none⟩ = some (.int .i64 t335) := (blk_cell BK344.out 1).trans rfl
            have hcz163_2 : wc.cell? ⟨gb344, 2, none⟩ = some (.int .i64 t336) := (blk_cell BK344.out 2).trans rfl
            have hcz163_3 : wc.cell? ⟨gb344, 3, none⟩ = some (.int .i64 t337) := (blk_cell BK344.out 3).trans rfl
            have hcz163_4 : wc.cell? ⟨gb344, 4, none⟩ = some (.int .i64 t338) := (blk_cell BK344.out 4).trans rfl
            have hcz163_5 : wc.cell? ⟨gb344, 5, none⟩ = some (.int .i64 t339) := (blk_cell BK344.out 5).trans rfl
            have hcz163_6 : wc.cell? ⟨gb344, 6, none⟩ = some (.int .i64 t340) := (blk_cell BK344.out 6).trans rfl
            have hcz163_7 : wc.cell? ⟨gb344, 7, none⟩ = some (.int .i64 t341) := (blk_cell BK344.out 7).trans rfl
            have hcz163_8 : wc.cell? ⟨gb344, 8, none⟩ = some (.int .i64 t342) := (blk_cell BK344.out 8).trans rfl
            have hcz163_9 : wc.cell? ⟨gb344, 9, none⟩ = some (.int .i64 t343) := (blk_cell BK344.out 9).trans rfl
            have hfz163_0 := blk_frozen BK344.out 0
            have hfz163_1 := blk_frozen BK344.out 1
            have hfz163_2 := blk_frozen BK344.out 2
            have hfz163_3 := blk_frozen BK344.out 3
            have hfz163_4 := blk_frozen BK344.out 4
            have hfz163_5 := blk_frozen BK344.out 5
            have hfz163_6 := blk_frozen BK344.out 6
            have hfz163_7 := blk_frozen BK344.out 7
            have hfz163_8 := blk_frozen BK344.out 8
            have hfz163_9 := blk_frozen BK344.out 9
            go_wp2
            go_ret
            exact ⟨by first | rfl | (simp [errW_none, errW_some] <;> rfl) | (simp [*, errW_none, errW_some] <;> rfl), by repeat (first | (with_reducible first | exact HB.out | apply below_alloc | apply pw_below_drewN | apply below_drew1 | refine below_set ?_ GE344.out | refine below_set ?_ GE345.out | refine below_set ?_ GE346.out) | exact HB.out)⟩
           ·rw [if_neg c158] at H
            have c158b0 : decide ((rd t331 x8_1) < t336) = false := decide_eq_false c158
            clear c158
            by_cases c164 : (rd t331 x8_1) > t337
            ·rw [if_pos c164] at H
             have c164b0 : decide (t337 < (rd t331 x8_1)) = true := decide_eq_true c164
             clear c164
             obtain rfl := Option.some.inj H
             have hnb165 := NB346_344.out
             have hnc165 := NB344_346.out
             have hnb166 := NB346_345.out
             have hnc166 := NB345_346.out
             have hcz167_0 : wc.cell? ⟨gb346, 0, none⟩ = some (.int .i64 x347000_1) := (blk_cell BK346.out 0).trans rfl
             have hcz167_1 : wc.cell? ⟨gb346, 1, none⟩ = some (.int .i64 x347001_1) := (blk_cell BK346.out 1).trans rfl
             have hcz167_2 : wc.cell? ⟨gb346, 2, none⟩ = some (.int .i64 x347002_1) := (blk_cell BK346.out 2).trans rfl
             have hcz167_3 : wc.cell? ⟨gb346, 3, none⟩ = some (.int .i64 x347003_1) := (blk_cell BK346.out 3).trans rfl
             have hfz167_0 := blk_frozen BK346.out 0
             have hfz167_1 := blk_frozen BK346.out 1
             have hfz167_2 := blk_frozen BK346.out 2
             have hfz167_3 := blk_frozen BK346.out 3
             have hnb168 := NB344_345.out
             have hnc168 := NB345_344.out
             have hcz169_0 : wc.cell? ⟨gb344, 0, none⟩ = some (.int .i64 t334) := (blk_cell BK344.out 0).trans rfl
             have hcz169_1 : wc.cell? ⟨gb344, 1, none⟩ = some (.int .i64 t335) := (blk_cell BK344.out 1).trans rfl
             have hcz169_2 : wc.cell? ⟨gb344, 2, none⟩ = some (.int .i64 t336) := (blk_cell BK344.out 2).trans rfl
             have hcz169_3 : wc.cell? ⟨gb344, 3, none⟩ = some (.int .i64 t337) := (blk_cell BK344.out 3).trans rfl
             have hcz169_4 : wc.cell? ⟨gb344, 4, none⟩ = some (.int .i64 t338) := (blk_cell BK344.out 4).trans rfl
             have hcz169_5 : wc.cell? ⟨gb344, 5, none⟩ = some (.int .i64 t339) := (blk_cell BK344.out 5).trans rfl
             have hcz169_6 : wc.cell? ⟨gb344, 6, none⟩ = some (.int .i64 t340) := (blk_cell BK344.out 6).trans rfl
             have hcz169_7 : wc.cell? ⟨gb344, 7, none⟩ = some (.int .i64 t341) := (blk_cell BK344.out 7).trans rfl
             have hcz169_8 : wc.cell? ⟨gb344, 8, none⟩ = some (.int .i64 t342) := (blk_cell BK344.out 8).trans rfl
             have hcz169_9 : wc.cell? ⟨gb344, 9, none⟩ = some (.int .i64 t343) := (blk_cell BK344.out 9).trans rfl
             have hfz169_0 := blk_frozen BK344.out 0
             have hfz169_1 := blk_frozen BK344.out 1
             have hfz169_2 := blk_frozen BK344.out 2
             have hfz169_3 := blk_frozen BK344.out 3
             have hfz169_4 := blk_frozen BK344.out 4
             have hfz169_5 := blk_frozen BK344.out 5
             have hfz169_6 := blk_frozen BK344.out 6
             have hfz169_7 := blk_frozen BK344.out 7
             have hfz169_8 := blk_frozen BK344.out 8
             have hfz169_9 := blk_frozen BK344.out 9
             go_wp2
             go_ret
             exact ⟨by first | rfl | (simp [errW_none, errW_some] <;> rfl) | (simp [*, errW_none, errW_some] <;> rfl), by repeat (first | (with_reducible first | exact HB.out | apply below_alloc | apply pw_below_drewN | apply below_drew1 | refine below_set ?_ GE344.out | refine below_set ?_ GE345.out | refine below_set ?_ GE346.out) | exact HB.out)⟩
            ·rw [if_neg c164] at H
             have c164b0 : decide (t337 < (rd t331 x8_1)) = false := decide_eq_false c164
             clear c164
             have H' := Aside0.mk H
             clear H
             have hnb170 := NB346_344.out
             have hnc170 := NB344_346.out
             have hnb171 := NB346_345.out
             have hnc171 := NB345_346.out
             have hcz172_0 : wc.cell? ⟨gb346, 0, none⟩ = some (.int .i64 x347000_1) := (blk_cell BK346.out 0).trans rfl
             have hcz172_1 : wc.cell? ⟨gb346, 1, none⟩ = some (.int .i64 x347001_1) := (blk_cell BK346.out 1).trans rfl
             have hcz172_2 : wc.cell? ⟨gb346, 2, none⟩ = some (.int .i64 x347002_1) := (blk_cell BK346.out 2).trans rfl
             have hcz172_3 : wc.cell? ⟨gb346, 3, none⟩ = some (.int .i64 x347003_1) := (blk_cell BK346.out 3).trans rfl
             have hfz172_0 := blk_frozen BK346.out 0
             have hfz172_1 := blk_frozen BK346.out 1
             have hfz172_2 := blk_frozen BK346.out 2
             have hfz172_3 := blk_frozen BK346.out 3
             have hnb173 := NB344_345.out
             have hnc173 := NB345_344.out
             have hcz174_0 : wc.cell? ⟨gb344, 0, none⟩ = some (.int .i64 t334) := (blk_cell BK344.out 0).trans rfl
             have hcz174_1 : wc.cell? ⟨gb344, 1, none⟩ = some (.int .i64 t335) := (blk_cell BK344.out 1).trans rfl
             have hcz174_2 : wc.cell? ⟨gb344, 2, none⟩ = some (.int .i64 t336) := (blk_cell BK344.out 2).trans rfl
             have hcz174_3 : wc.cell? ⟨gb344, 3, none⟩ = some (.int .i64 t337) := (blk_cell BK344.out 3).trans rfl
             have hcz174_4 : wc.cell? ⟨gb344, 4, none⟩ = some (.int .i64 t338) := (blk_cell BK344.out 4).trans rfl
             have hcz174_5 : wc.cell? ⟨gb344, 5, none⟩ = some (.int .i64 t339) := (blk_cell BK344.out 5).trans rfl
             have hcz174_6 : wc.cell? ⟨gb344, 6, none⟩ = some (.int .i64 t340) := (blk_cell BK344.out 6).trans rfl
             have hcz174_7 : wc.cell? ⟨gb344, 7, none⟩ = some (.int .i64 t341) := (blk_cell BK344.out 7).trans rfl
             have hcz174_8 : wc.cell? ⟨gb344, 8, none⟩ = some (.int .i64 t342) := (blk_cell BK344.out 8).trans rfl
             have hcz174_9 : wc.cell? ⟨gb344, 9, none⟩ = some (.int .i64 t343) := (blk_cell BK344.out 9).trans rfl
             have hfz174_0 := blk_frozen BK344.out 0
             have hfz174_1 := blk_frozen BK344.out 1
             have hfz174_2 := blk_frozen BK344.out 2
             have hfz174_3 := blk_frozen BK344.out 3
             have hfz174_4 := blk_frozen BK344.out 4
             have hfz174_5 := blk_frozen BK344.out 5
             have hfz174_6 := blk_frozen BK344.out 6
             have hfz174_7 := blk_frozen BK344.out 7
             have hfz174_8 := blk_frozen BK344.out 8
             have hfz174_9 := blk_frozen BK344.out 9
             go_wp2
             go_roundg kj12
             case measure => have := HK1.out; have := HJ12.out; omega
             case rel => exact ⟨(((rd t331 x8_1) == t336)), (((rd t331 x8_1) == t337)), (wrap64 (x8_1 + 1)), (x346000_12), (x346001_12), (x346002_12), (x346003_12), (x347000_1), (wrap64 (x347001_1 + 1)), (x347002_1), (x347003_1), (by first | rfl | (simp; done) | (simp [*]; done) | (simp [wrap64]; done)), (by first | rfl | (simp; done) | (simp [*]; done) | (simp [wrap64]; done)), (by first | rfl | (simp; done) | (simp [*]; done) | (simp [wrap64]; done)), H', ⟨by have := HK1.out; have := HJ12.out; omega⟩, ⟨by (with_reducible repeat (first | apply Kd.V_alloc | apply Kd.V_drewN | apply Kd.V_drew)); exact Kd.V_mono (Kd.V_far (p := ⟨gb346, 1, none⟩) (Kd.V_mono HO_0.out (fun k_ hk => (⟨hk, hk.2.2⟩ : _ ∧ k_ ≠ gb346))) (fun _ hk => hk.2) (.int .i64 (wrap64 (x347001_1 + 1)))) (fun _ hk => ⟨hk.1.1, ⟨hk.1.2.1, hk.1.2.2⟩⟩)⟩, ⟨by (with_reducible repeat (first | refine blk_drewN ?_ _ | refine blk_drew ?_ | refine blk_alloc ?_ _)); refine blk_far ?_ NB344_346.out _; (with_reducible repeat (first | refine blk_drewN ?_ _ | refine blk_drew ?_ | refine blk_alloc ?_ _)); exact BK344.out⟩, ⟨by (with_reducible repeat (first | refine blk_drewN ?_ _ | refine blk_drew ?_ | refine blk_alloc ?_ _)); refine blk_far ?_ NB345_346.out _; (with_reducible repeat (first | refine blk_drewN ?_ _ | refine blk_drew ?_ | refine blk_alloc ?_ _)); exact BK345.out⟩, ⟨by (with_reducible repeat (first | refine blk_drewN ?_ _ | refine blk_drew ?_ | refine blk_alloc ?_ _)); refine blk_put (cs := #[.int .i64 x347000_1, .int .i64 x347001_1, .int .i64 x347002_1, .int .i64 x347003_1]) ?_ 1 _ rfl; (with_reducible repeat (first | refine blk_drewN ?_ _ | refine blk_drew ?_ | refine blk_alloc ?_ _)); exact BK346.out⟩, ⟨by repeat (first | (with_reducible first | exact HB.out | apply below_alloc | apply pw_below_drewN | apply below_drew1 | refine below_set ?_ GE344.out | refine below_set ?_ GE345.out | refine below_set ?_ GE346.out) | exact HB.out)⟩⟩
        ·rw [if_neg c103] at H
         have c103b0 : decide ((rd t331 x8_1) < 10) = false := decide_eq_false c103
         clear c103
         by_cases c175 : (rd t331 x8_1) < 100
         ·rw [if_pos c175] at H
          have c175b0 : decide ((rd t331 x8_1) < 100) = true := decide_eq_true c175
          clear c175
          by_cases c176 : x6_1 = true
          ·subst c176
           have H1 : (if x7_1 = true then (if (rd t331 x8_1) < t336 then (some false) else (if (rd t331 x8_1) > t337 then (some false) else (headgatelaw15_FoldCounts.l0 kj12 t331 true true (wrap64 (x8_1 + 1)) t334 t335 t336 t337 t338 t339 t340 t341 t342 t343 x346000_12 x346001_12 x346002_12 x346003_12 x347000_1 x347001_1 (wrap64 (x347002_1 + 1)) x347003_1))) else (if (rd t331 x8_1) < t336 then (some false) else (if (rd t331 x8_1) > t337 then (some false) else (headgatelaw15_FoldCounts.l0 kj12 t331 true ((rd t331 x8_1) == t337) (wrap64 (x8_1 + 1)) t334 t335 t336 t337 t338 t339 t340 t341 t342 t343 x346000_12 x346001_12 x346002_12 x346003_12 x347000_1 x347001_1 (wrap64 (x347002_1 + 1)) x347003_1)))) = some r := by rw [if_pos rfl] at H; exact H
           clear H
           have H := H1
           clear H1
           by_cases c177 : x7_1 = true
           ·subst c177
            have H1 : (if (rd t331 x8_1) < t336 then (some false) else (if (rd t331 x8_1) > t337 then (some false) else (headgatelaw15_FoldCounts.l0 kj12 t331 true true (wrap64 (x8_1 + 1)) t334 t335 t336 t337 t338 t339 t340 t341 t342 t343 x346000_12 x346001_12 x346002_12 x346003_12 x347000_1 x347001_1 (wrap64 (x347002_1 + 1)) x347003_1))) = some r := by rw [if_pos rfl] at H; exact H
            clear H
            have H := H1
            clear H1
            by_cases c178 : (rd t331 x8_1) < t336
            ·rw [if_pos c178] at H
             have c178b0 : decide ((rd t331 x8_1) < t336) = true := decide_eq_true c178
             clear c178
             obtain rfl := Option.some.inj H
             have hnb179 := NB346_344.out
             have hnc179 := NB344_346.out
             have hnb180 := NB346_345.out
             have hnc180 := NB345_346.out
             have hcz181_0 : wc.cell? ⟨gb346, 0, none⟩ = some (.int .i64 x347000_1) := (blk_cell BK346.out 0).trans rfl
             have hcz181_1 : wc.cell? ⟨gb346, 1, none⟩ = some (.int .i64 x347001_1) := (blk_cell BK346.out 1).trans rfl
             have hcz181_2 : wc.cell? ⟨gb346, 2, none⟩ = some (.int .i64 x347002_1) := (blk_cell BK346.out 2).trans rfl
             have hcz181_3 : wc.cell? ⟨gb346, 3, none⟩ = some (.int .i64 x347003_1) := (blk_cell BK346.out 3).trans rfl
             have hfz181_0 := blk_frozen BK346.out 0
             have hfz181_1 := blk_frozen BK346.out 1
             have hfz181_2 := blk_frozen BK346.out 2
             have hfz181_3 := blk_frozen BK346.out 3
             have hnb182 := NB344_345.out
             have hnc182 := NB345_344.out
             have hcz183_0 : wc.cell? ⟨gb344, 0, none⟩ = some (.int .i64 t334) := (blk_cell BK344.out 0).trans rfl
             have hcz183_1 : wc.cell? ⟨gb344, 1, none⟩ = some (.int .i64 t335) := (blk_cell BK344.out 1).trans rfl
             have hcz183_2 : wc.cell? ⟨gb344, 2, none⟩ = some (.int .i64 t336) := (blk_cell BK344.out 2).trans rfl
             have hcz183_3 : wc.cell? ⟨gb344, 3, none⟩ = some (.int .i64 t337) := (blk_cell BK344.out 3).trans rfl
             have hcz183_4 : wc.cell? ⟨gb344, 4, none⟩ = some (.int .i64 t338) := (blk_cell BK344.out 4).trans rfl
             have hcz183_5 : wc.cell? ⟨gb344, 5, none⟩ = some (.int .i64 t339) := (blk_cell BK344.out 5).trans rfl
             have hcz183_6 : wc.cell? ⟨gb344, 6, none⟩ = some (.int .i64 t340) := (blk_cell BK344.out 6).trans rfl
             have hcz183_7 : wc.cell? ⟨gb344, 7, none⟩ = some (.int .i64 t341) := (blk_cell BK344.out 7).trans rfl
             have hcz183_8 : wc.cell? ⟨gb344, 8, none⟩ = some (.int .i64 t342) := (blk_cell BK344.out 8).trans rfl
             have hcz183_9 : wc.cell? ⟨gb344, 9, none⟩ = some (.int .i64 t343) := (blk_cell BK344.out 9).trans rfl
             have hfz183_0 := blk_frozen BK344.out 0
             have hfz183_1 := blk_frozen BK344.out 1
             have hfz183_2 := blk_frozen BK344.out 2
             have hfz183_3 := blk_frozen BK344.out 3
             have hfz183_4 := blk_frozen BK344.out 4
             have hfz183_5 := blk_frozen BK344.out 5
             have hfz183_6 := blk_frozen BK344.out 6
             have hfz183_7 := blk_frozen BK344.out 7
             have hfz183_8 := blk_frozen BK344.out 8
             have hfz183_9 := blk_frozen BK344.out 9
             go_wp2
             go_ret
             exact ⟨by first | rfl | (simp [errW_none, errW_some] <;> rfl) | (simp [*, errW_none, errW_some] <;> rfl), by repeat (first | (with_reducible first | exact HB.out | apply below_alloc | apply pw_below_drewN | apply below_drew1 | refine below_set ?_ GE344.out | refine below_set ?_ GE345.out | refine below_set ?_ GE346.out) | exact HB.out)⟩
            ·rw [if_neg c178] at H
             have c178b0 : decide ((rd t331 x8_1) < t336) = false := decide_eq_false c178
             clear c178
             by_cases c184 : (rd t331 x8_1) > t337
             ·rw [if_pos c184] at H
              have c184b0 : decide (t337 < (rd t331 x8_1)) = true := decide_eq_true c184
              clear c184
              obtain rfl := Option.some.inj H
              have hnb185 := NB346_344.out
              have hnc185 := NB344_346.out
              have hnb186 := NB346_345.out
              have hnc186 := NB345_346.out
              have hcz187_0 : wc.cell? ⟨gb346, 0, none⟩ = some (.int .i64 x347000_1) := (blk_cell BK346.out 0).trans rfl
              have hcz187_1 : wc.cell? ⟨gb346, 1, none⟩ = some (.int .i64 x347001_1) := (blk_cell BK346.out 1).trans rfl
              have hcz187_2 : wc.cell? ⟨gb346, 2, none⟩ = some (.int .i64 x347002_1) := (blk_cell BK346.out 2).trans rfl
              have hcz187_3 : wc.cell? ⟨gb346, 3, none⟩ = some (.int .i64 x347003_1) := (blk_cell BK346.out 3).trans rfl
              have hfz187_0 := blk_frozen BK346.out 0
              have hfz187_1 := blk_frozen BK346.out 1
              have hfz187_2 := blk_frozen BK346.out 2
              have hfz187_3 := blk_frozen BK346.out 3
              have hnb188 := NB344_345.out
              have hnc188 := NB345_344.out
              have hcz189_0 : wc.cell? ⟨gb344, 0, none⟩ = some (.int .i64 t334) := (blk_cell BK344.out 0).trans rfl
              have hcz189_1 : wc.cell? ⟨gb344, 1, none⟩ = some (.int .i64 t335) := (blk_cell BK344.out 1).trans rfl
              have hcz189_2 : wc.cell? ⟨gb344, 2, none⟩ = some (.int .i64 t336) := (blk_cell BK344.out 2).trans rfl
              have hcz189_3 : wc.cell? ⟨gb344, 3, none⟩ = some (.int .i64 t337) := (blk_cell BK344.out 3).trans rfl
              have hcz189_4 : wc.cell? ⟨gb344, 4, none⟩ = some (.int .i64 t338) := (blk_cell BK344.out 4).trans rfl
              have hcz189_5 : wc.cell? ⟨gb344, 5, none⟩ = some (.int .i64 t339) := (blk_cell BK344.out 5).trans rfl
              have hcz189_6 : wc.cell? ⟨gb344, 6, none⟩ = some (.int .i64 t340) := (blk_cell BK344.out 6).trans rfl
              have hcz189_7 : wc.cell? ⟨gb344, 7, none⟩ = some (.int .i64 t341) := (blk_cell BK344.out 7).trans rfl
              have hcz189_8 : wc.cell? ⟨gb344, 8, none⟩ = some (.int .i64 t342) := (blk_cell BK344.out 8).trans rfl
              have hcz189_9 : wc.cell? ⟨gb344, 9, none⟩ = some (.int .i64 t343) := (blk_cell BK344.out 9).trans rfl
              have hfz189_0 := blk_frozen BK344.out 0
              have hfz189_1 := blk_frozen BK344.out 1
              have hfz189_2 := blk_frozen BK344.out 2
              have hfz189_3 := blk_frozen BK344.out 3
              have hfz189_4 := blk_frozen BK344.out 4
              have hfz189_5 := blk_frozen BK344.out 5
              have hfz189_6 := blk_frozen BK344.out 6
              have hfz189_7 := blk_frozen BK344.out 7
              have hfz189_8 := blk_frozen BK344.out 8
              have hfz189_9 := blk_frozen BK344.out 9
              go_wp2
              go_ret
              exact ⟨by first | rfl | (simp [errW_none, errW_some] <;> rfl) | (simp [*, errW_none, errW_some] <;> rfl), by repeat (first | (with_reducible first | exact HB.out | apply below_alloc | apply pw_below_drewN | apply below_drew1 | refine below_set ?_ GE344.out | refine below_set ?_ GE345.out | refine below_set ?_ GE346.out) | exact HB.out)⟩
             ·rw [if_neg c184] at H
              have c184b0 : decide (t337 < (rd t331 x8_1)) = false := decide_eq_false c184
              clear c184
              have H' := Aside0.mk H
              clear H
              have hnb190 := NB346_344.out
              have hnc190 := NB344_346.out
              have hnb191 := NB346_345.out
              have hnc191 := NB345_346.out
              have hcz192_0 : wc.cell? ⟨gb346, 0, none⟩ = some (.int .i64 x347000_1) := (blk_cell BK346.out 0).trans rfl
              have hcz192_1 : wc.cell? ⟨gb346, 1, none⟩ = some (.int .i64 x347001_1) := (blk_cell BK346.out 1).trans rfl
              have hcz192_2 : wc.cell? ⟨gb346, 2, none⟩ = some (.int .i64 x347002_1) := (blk_cell BK346.out 2).trans rfl
              have hcz192_3 : wc.cell? ⟨gb346, 3, none⟩ = some (.int .i64 x347003_1) := (blk_cell BK346.out 3).trans rfl
              have hfz192_0 := blk_frozen BK346.out 0
              have hfz192_1 := blk_frozen BK346.out 1
              have hfz192_2 := blk_frozen BK346.out 2
              have hfz192_3 := blk_frozen BK346.out 3
              have hnb193 := NB344_345.out
              have hnc193 := NB345_344.out
              have hcz194_0 : wc.cell? ⟨gb344, 0, none⟩ = some (.int .i64 t334) := (blk_cell BK344.out 0).trans rfl
              have hcz194_1 : wc.cell? ⟨gb344, 1, none⟩ = some (.int .i64 t335) := (blk_cell BK344.out 1).trans rfl
              have hcz194_2 : wc.cell? ⟨gb344, 2, none⟩ = some (.int .i64 t336) := (blk_cell BK344.out 2).trans rfl
              have hcz194_3 : wc.cell? ⟨gb344, 3, none⟩ = some (.int .i64 t337) := (blk_cell BK344.out 3).trans rfl
              have hcz194_4 : wc.cell? ⟨gb344, 4, none⟩ = some (.int .i64 t338) := (blk_cell BK344.out 4).trans rfl
              have hcz194_5 : wc.cell? ⟨gb344, 5, none⟩ = some (.int .i64 t339) := (blk_cell BK344.out 5).trans rfl
              have hcz194_6 : wc.cell? ⟨gb344, 6, none⟩ = some (.int .i64 t340) := (blk_cell BK344.out 6).trans rfl
              have hcz194_7 : wc.cell? ⟨gb344, 7, none⟩ = some (.int .i64 t341) := (blk_cell BK344.out 7).trans rfl
              have hcz194_8 : wc.cell? ⟨gb344, 8, none⟩ = some (.int .i64 t342) := (blk_cell BK344.out 8).trans rfl
              have hcz194_9 : wc.cell? ⟨gb344, 9, none⟩ = some (.int .i64 t343) := (blk_cell BK344.out 9).trans rfl
              have hfz194_0 := blk_frozen BK344.out 0
              have hfz194_1 := blk_frozen BK344.out 1
              have hfz194_2 := blk_frozen BK344.out 2
              have hfz194_3 := blk_frozen BK344.out 3
              have hfz194_4 := blk_frozen BK344.out 4
              have hfz194_5 := blk_frozen BK344.out 5
              have hfz194_6 := blk_frozen BK344.out 6
              have hfz194_7 := blk_frozen BK344.out 7
              have hfz194_8 := blk_frozen BK344.out 8
              have hfz194_9 := blk_frozen BK344.out 9
              go_wp2
              go_roundg kj12
              case measure => have := HK1.out; have := HJ12.out; omega
              case rel => exact ⟨(true), (true), (wrap64 (x8_1 + 1)), (x346000_12), (x346001_12), (x346002_12), (x346003_12), (x347000_1), (x347001_1), (wrap64 (x347002_1 + 1)), (x347003_1), (by first | rfl | (simp; done) | (simp [*]; done) | (simp [wrap64]; done)), (by first | rfl | (simp; done) | (simp [*]; done) | (simp [wrap64]; done)), (by first | rfl | (simp; done) | (simp [*]; done) | (simp [wrap64]; done)), H', ⟨by have := HK1.out; have := HJ12.out; omega⟩, ⟨by (with_reducible repeat (first | apply Kd.V_alloc | apply Kd.V_drewN | apply Kd.V_drew)); exact Kd.V_mono (Kd.V_far (p := ⟨gb346, 2, none⟩) (Kd.V_mono HO_0.out (fun k_ hk => (⟨hk, hk.2.2⟩ : _ ∧ k_ ≠ gb346))) (fun _ hk => hk.2) (.int .i64 (wrap64 (x347002_1 + 1)))) (fun _ hk => ⟨hk.1.1, ⟨hk.1.2.1, hk.1.2.2⟩⟩)⟩, ⟨by (with_reducible repeat (first | refine blk_drewN ?_ _ | refine blk_drew ?_ | refine blk_alloc ?_ _)); refine blk_far ?_ NB344_346.out _; (with_reducible repeat (first | refine blk_drewN ?_ _ | refine blk_drew ?_ | refine blk_alloc ?_ _)); exact BK344.out⟩, ⟨by (with_reducible repeat (first | refine blk_drewN ?_ _ | refine blk_drew ?_ | refine blk_alloc ?_ _)); refine blk_far ?_ NB345_346.out _; (with_reducible repeat (first | refine blk_drewN ?_ _ | refine blk_drew ?_ | refine blk_alloc ?_ _)); exact BK345.out⟩, ⟨by (with_reducible repeat (first | refine blk_drewN ?_ _ | refine blk_drew ?_ | refine blk_alloc ?_ _)); refine blk_put (cs := #[.int .i64 x347000_1, .int .i64 x347001_1, .int .i64 x347002_1, .int .i64 x347003_1]) ?_ 2 _ rfl; (with_reducible repeat (first | refine blk_drewN ?_ _ | refine blk_drew ?_ | refine blk_alloc ?_ _)); exact BK346.out⟩, ⟨by repeat (first | (with_reducible first | exact HB.out | apply below_alloc | apply pw_below_drewN | apply below_drew1 | refine below_set ?_ GE344.out | refine below_set ?_ GE345.out | refine below_set ?_ GE346.out) | exact HB.out)⟩⟩
           ·replace c177 := Bool.eq_false_iff.mpr c177
            subst c177
            have H1 : (if (rd t331 x8_1) < t336 then (some false) else (if (rd t331 x8_1) > t337 then (some false) else (headgatelaw15_FoldCounts.l0 kj12 t331 true ((rd t331 x8_1) == t337) (wrap64 (x8_1 + 1)) t334 t335 t336 t337 t338 t339 t340 t341 t342 t343 x346000_12 x346001_12 x346002_12 x346003_12 x347000_1 x347001_1 (wrap64 (x347002_1 + 1)) x347003_1))) = some r := by rw [if_neg (show ¬ (false = true) by decide)] at H; exact H
            clear H
            have H := H1
            clear H1
            by_cases c195 : (rd t331 x8_1) < t336
            ·rw [if_pos c195] at H
             have c195b0 : decide ((rd t331 x8_1) < t336) = true := decide_eq_true c195
             clear c195
             obtain rfl := Option.some.inj H
             have hnb196 := NB346_344.out
             have hnc196 := NB344_346.out
             have hnb197 := NB346_345.out
             have hnc197 := NB345_346.out
             have hcz198_0 : wc.cell? ⟨gb346, 0, none⟩ = some (.int .i64 x347000_1) := (blk_cell BK346.out 0).trans rfl
             have hcz198_1 : wc.cell? ⟨gb346, 1, none⟩ = some (.int .i64 x347001_1) := (blk_cell BK346.out 1).trans rfl
             have hcz198_2 : wc.cell? ⟨gb346, 2, none⟩ = some (.int .i64 x347002_1) := (blk_cell BK346.out 2).trans rfl
             have hcz198_3 : wc.cell? ⟨gb346, 3, none⟩ = some (.int .i64 x347003_1) := (blk_cell BK346.out 3).trans rfl
             have hfz198_0 := blk_frozen BK346.out 0
             have hfz198_1 := blk_frozen BK346.out 1
             have hfz198_2 := blk_frozen BK346.out 2
             have hfz198_3 := blk_frozen BK346.out 3
             have hnb199 := NB344_345.out
             have hnc199 := NB345_344.out
             have hcz200_0 : wc.cell? ⟨gb344, 0, none⟩ = some (.int .i64 t334) := (blk_cell BK344.out 0).trans rfl
             have hcz200_1 : wc.cell? ⟨gb344, 1, none⟩ = some (.int .i64 t335) := (blk_cell BK344.out 1).trans rfl
             have hcz200_2 : wc.cell? ⟨gb344, 2, none⟩ = some (.int .i64 t336) := (blk_cell BK344.out 2).trans rfl
             have hcz200_3 : wc.cell? ⟨gb344, 3, none⟩ = some (.int .i64 t337) := (blk_cell BK344.out 3).trans rfl
             have hcz200_4 : wc.cell? ⟨gb344, 4, none⟩ = some (.int .i64 t338) := (blk_cell BK344.out 4).trans rfl
             have hcz200_5 : wc.cell? ⟨gb344, 5, none⟩ = some (.int .i64 t339) := (blk_cell BK344.out 5).trans rfl
             have hcz200_6 : wc.cell? ⟨gb344, 6, none⟩ = some (.int .i64 t340) := (blk_cell BK344.out 6).trans rfl
             have hcz200_7 : wc.cell? ⟨gb344, 7, none⟩ = some (.int .i64 t341) := (blk_cell BK344.out 7).trans rfl
             have hcz200_8 : wc.cell? ⟨gb344, 8, none⟩ = some (.int .i64 t342) := (blk_cell BK344.out 8).trans rfl
             have hcz200_9 : wc.cell? ⟨gb344, 9, none⟩ = some (.int .i64 t343) := (blk_cell BK344.out 9).trans rfl
             have hfz200_0 := blk_frozen BK344.out 0
             have hfz200_1 := blk_frozen BK344.out 1
             have hfz200_2 := blk_frozen BK344.out 2
             have hfz200_3 := blk_frozen BK344.out 3
             have hfz200_4 := blk_frozen BK344.out 4
             have hfz200_5 := blk_frozen BK344.out 5
             have hfz200_6 := blk_frozen BK344.out 6
             have hfz200_7 := blk_frozen BK344.out 7
             have hfz200_8 := blk_frozen BK344.out 8
             have hfz200_9 := blk_frozen BK344.out 9
             go_wp2
             go_ret
             exact ⟨by first | rfl | (simp [errW_none, errW_some] <;> rfl) | (simp [*, errW_none, errW_some] <;> rfl), by repeat (first | (with_reducible first | exact HB.out | apply below_alloc | apply pw_below_drewN | apply below_drew1 | refine below_set ?_ GE344.out | refine below_set ?_ GE345.out | refine below_set ?_ GE346.out) | exact HB.out)⟩
            ·rw [if_neg c195] at H
             have c195b0 : decide ((rd t331 x8_1) < t336) = false := decide_eq_false c195
             clear c195
             by_cases c201 : (rd t331 x8_1) > t337
             ·rw [if_pos c201] at H
              have c201b0 : decide (t337 < (rd t331 x8_1)) = true := decide_eq_true c201
              clear c201
              obtain rfl := Option.some.inj H
              have hnb202 := NB346_344.out
              have hnc202 := NB344_346.out
              have hnb203 := NB346_345.out
              have hnc203 := NB345_346.out
              have hcz204_0 : wc.cell? ⟨gb346, 0, none⟩ = some (.int .i64 x347000_1) := (blk_cell BK346.out 0).trans rfl
              have hcz204_1 : wc.cell? ⟨gb346, 1, none⟩ = some (.int .i64 x347001_1) := (blk_cell BK346.out 1).trans rfl
              have hcz204_2 : wc.cell? ⟨gb346, 2, none⟩ = some (.int .i64 x347002_1) := (blk_cell BK346.out 2).trans rfl
              have hcz204_3 : wc.cell? ⟨gb346, 3, none⟩ = some (.int .i64 x347003_1) := (blk_cell BK346.out 3).trans rfl
              have hfz204_0 := blk_frozen BK346.out 0
              have hfz204_1 := blk_frozen BK346.out 1
              have hfz204_2 := blk_frozen BK346.out 2
              have hfz204_3 := blk_frozen BK346.out 3
              have hnb205 := NB344_345.out
              have hnc205 := NB345_344.out
              have hcz206_0 : wc.cell? ⟨gb344, 0, none⟩ = some (.int .i64 t334) := (blk_cell BK344.out 0).trans rfl
              have hcz206_1 : wc.cell? ⟨gb344, 1, none⟩ = some (.int .i64 t335) := (blk_cell BK344.out 1).trans rfl
              have hcz206_2 : wc.cell? ⟨gb344, 2, none⟩ = some (.int .i64 t336) := (blk_cell BK344.out 2).trans rfl
              have hcz206_3 : wc.cell? ⟨gb344, 3, none⟩ = some (.int .i64 t337) := (blk_cell BK344.out 3).trans rfl
              have hcz206_4 : wc.cell? ⟨gb344, 4, none⟩ = some (.int .i64 t338) := (blk_cell BK344.out 4).trans rfl
              have hcz206_5 : wc.cell? ⟨gb344, 5, none⟩ = some (.int .i64 t339) := (blk_cell BK344.out 5).trans rfl
              have hcz206_6 : wc.cell? ⟨gb344, 6, none⟩ = some (.int .i64 t340) := (blk_cell BK344.out 6).trans rfl
              have hcz206_7 : wc.cell? ⟨gb344, 7, none⟩ = some (.int .i64 t341) := (blk_cell BK344.out 7).trans rfl
              have hcz206_8 : wc.cell? ⟨gb344, 8, none⟩ = some (.int .i64 t342) := (blk_cell BK344.out 8).trans rfl
              have hcz206_9 : wc.cell? ⟨gb344, 9, none⟩ = some (.int .i64 t343) := (blk_cell BK344.out 9).trans rfl
              have hfz206_0 := blk_frozen BK344.out 0
              have hfz206_1 := blk_frozen BK344.out 1
              have hfz206_2 := blk_frozen BK344.out 2
              have hfz206_3 := blk_frozen BK344.out 3
              have hfz206_4 := blk_frozen BK344.out 4
              have hfz206_5 := blk_frozen BK344.out 5
              have hfz206_6 := blk_frozen BK344.out 6
              have hfz206_7 := blk_frozen BK344.out 7
              have hfz206_8 := blk_frozen BK344.out 8
              have hfz206_9 := blk_frozen BK344.out 9
              go_wp2
              go_ret
              exact ⟨by first | rfl | (simp [errW_none, errW_some] <;> rfl) | (simp [*, errW_none, errW_some] <;> rfl), by repeat (first | (with_reducible first | exact HB.out | apply below_alloc | apply pw_below_drewN | apply below_drew1 | refine below_set ?_ GE344.out | refine below_set ?_ GE345.out | refine below_set ?_ GE346.out) | exact HB.out)⟩
             ·rw [if_neg c201] at H
              have c201b0 : decide (t337 < (rd t331 x8_1)) = false := decide_eq_false c201
              clear c201
              have H' := Aside0.mk H
              clear H
              have hnb207 := NB346_344.out
              have hnc207 := NB344_346.out
              have hnb208 := NB346_345.out
              have hnc208 := NB345_346.out
              have hcz209_0 : wc.cell? ⟨gb346, 0, none⟩ = some (.int .i64 x347000_1) := (blk_cell BK346.out 0).trans rfl
              have hcz209_1 : wc.cell? ⟨gb346, 1, none⟩ = some (.int .i64 x347001_1) := (blk_cell BK346.out 1).trans rfl
              have hcz209_2 : wc.cell? ⟨gb346, 2, none⟩ = some (.int .i64 x347002_1) := (blk_cell BK346.out 2).trans rfl
              have hcz209_3 : wc.cell? ⟨gb346, 3, none⟩ = some (.int .i64 x347003_1) := (blk_cell BK346.out 3).trans rfl
              have hfz209_0 := blk_frozen BK346.out 0
              have hfz209_1 := blk_frozen BK346.out 1
              have hfz209_2 := blk_frozen BK346.out 2
              have hfz209_3 := blk_frozen BK346.out 3
              have hnb210 := NB344_345.out
              have hnc210 := NB345_344.out
              have hcz211_0 : wc.cell? ⟨gb344, 0, none⟩ = some (.int .i64 t334) := (blk_cell BK344.out 0).trans rfl
              have hcz211_1 : wc.cell? ⟨gb344, 1, none⟩ = some (.int .i64 t335) := (blk_cell BK344.out 1).trans rfl
              have hcz211_2 : wc.cell? ⟨gb344, 2, none⟩ = some (.int .i64 t336) := (blk_cell BK344.out 2).trans rfl
              have hcz211_3 : wc.cell? ⟨gb344, 3, none⟩ = some (.int .i64 t337) := (blk_cell BK344.out 3).trans rfl
              have hcz211_4 : wc.cell? ⟨gb344, 4, none⟩ = some (.int .i64 t338) := (blk_cell BK344.out 4).trans rfl
              have hcz211_5 : wc.cell? ⟨gb344, 5, none⟩ = some (.int .i64 t339) := (blk_cell BK344.out 5).trans rfl
              have hcz211_6 : wc.cell? ⟨gb344, 6, none⟩ = some (.int .i64 t340) := (blk_cell BK344.out 6).trans rfl
              have hcz211_7 : wc.cell? ⟨gb344, 7, none⟩ = some (.int .i64 t341) := (blk_cell BK344.out 7).trans rfl
              have hcz211_8 : wc.cell? ⟨gb344, 8, none⟩ = some (.int .i64 t342) := (blk_cell BK344.out 8).trans rfl
              have hcz211_9 : wc.cell? ⟨gb344, 9, none⟩ = some (.int .i64 t343) := (blk_cell BK344.out 9).trans rfl
              have hfz211_0 := blk_frozen BK344.out 0
              have hfz211_1 := blk_frozen BK344.out 1
              have hfz211_2 := blk_frozen BK344.out 2
              have hfz211_3 := blk_frozen BK344.out 3
              have hfz211_4 := blk_frozen BK344.out 4
              have hfz211_5 := blk_frozen BK344.out 5
              have hfz211_6 := blk_frozen BK344.out 6
              have hfz211_7 := blk_frozen BK344.out 7
              have hfz211_8 := blk_frozen BK344.out 8
              have hfz211_9 := blk_frozen BK344.out 9
              go_wp2
              go_roundg kj12
              case measure => have := HK1.out; have := HJ12.out; omega
              case rel => exact ⟨(true), (((rd t331 x8_1) == t337)), (wrap64 (x8_1 + 1)), (x346000_12), (x346001_12), (x346002_12), (x346003_12), (x347000_1), (x347001_1), (wrap64 (x347002_1 + 1)), (x347003_1), (by first | rfl | (simp; done) | (simp [*]; done) | (simp [wrap64]; done)), (by first | rfl | (simp; done) | (simp [*]; done) | (simp [wrap64]; done)), (by first | rfl | (simp; done) | (simp [*]; done) | (simp [wrap64]; done)), H', ⟨by have := HK1.out; have := HJ12.out; omega⟩, ⟨by (with_reducible repeat (first | apply Kd.V_alloc | apply Kd.V_drewN | apply Kd.V_drew)); exact Kd.V_mono (Kd.V_far (p := ⟨gb346, 2, none⟩) (Kd.V_mono HO_0.out (fun k_ hk => (⟨hk, hk.2.2⟩ : _ ∧ k_ ≠ gb346))) (fun _ hk => hk.2) (.int .i64 (wrap64 (x347002_1 + 1)))) (fun _ hk => ⟨hk.1.1, ⟨hk.1.2.1, hk.1.2.2⟩⟩)⟩, ⟨by (with_reducible repeat (first | refine blk_drewN ?_ _ | refine blk_drew ?_ | refine blk_alloc ?_ _)); refine blk_far ?_ NB344_346.out _; (with_reducible repeat (first | refine blk_drewN ?_ _ | refine blk_drew ?_ | refine blk_alloc ?_ _)); exact BK344.out⟩, ⟨by (with_reducible repeat (first | refine blk_drewN ?_ _ | refine blk_drew ?_ | refine blk_alloc ?_ _)); refine blk_far ?_ NB345_346.out _; (with_reducible repeat (first | refine blk_drewN ?_ _ | refine blk_drew ?_ | refine blk_alloc ?_ _)); exact BK345.out⟩, ⟨by (with_reducible repeat (first | refine blk_drewN ?_ _ | refine blk_drew ?_ | refine blk_alloc ?_ _)); refine blk_put (cs := #[.int .i64 x347000_1, .int .i64 x347001_1, .int .i64 x347002_1, .int .i64 x347003_1]) ?_ 2 _ rfl; (with_reducible repeat (first | refine blk_drewN ?_ _ | refine blk_drew ?_ | refine blk_alloc ?_ _)); exact BK346.out⟩, ⟨by repeat (first | (with_reducible first | exact HB.out | apply below_alloc | apply pw_below_drewN | apply below_drew1 | refine below_set ?_ GE344.out | refine below_set ?_ GE345.out | refine below_set ?_ GE346.out) | exact HB.out)⟩⟩
          ·replace c176 := Bool.eq_false_iff.mpr c176
           subst c176
           have H1 : (if x7_1 = true then (if (rd t331 x8_1) < t336 then (some false) else (if (rd t331 x8_1) > t337 then (some false) else (headgatelaw15_FoldCounts.l0 kj12 t331 ((rd t331 x8_1) == t336) true (wrap64 (x8_1 + 1)) t334 t335 t336 t337 t338 t339 t340 t341 t342 t343 x346000_12 x346001_12 x346002_12 x346003_12 x347000_1 x347001_1 (wrap64 (x347002_1 + 1)) x347003_1))) else (if (rd t331 x8_1) < t336 then (some false) else (if (rd t331 x8_1) > t337 then (some false) else (headgatelaw15_FoldCounts.l0 kj12 t331 ((rd t331 x8_1) == t336) ((rd t331 x8_1) == t337) (wrap64 (x8_1 + 1)) t334 t335 t336 t337 t338 t339 t340 t341 t342 t343 x346000_12 x346001_12 x346002_12 x346003_12 x347000_1 x347001_1 (wrap64 (x347002_1 + 1)) x347003_1)))) = some r := by rw [if_neg (show ¬ (false = true) by decide)] at H; exact H
           clear H
           have H := H1
           clear H1
           by_cases c212 : x7_1 = true
           ·subst c212
            have H1 : (if (rd t331 x8_1) < t336 then (some false) else (if (rd t331 x8_1) > t337 then (some false) else (headgatelaw15_FoldCounts.l0 kj12 t331 ((rd t331 x8_1) == t336) true (wrap64 (x8_1 + 1)) t334 t335 t336 t337 t338 t339 t340 t341 t342 t343 x346000_12 x346001_12 x346002_12 x346003_12 x347000_1 x347001_1 (wrap64 (x347002_1 + 1)) x347003_1))) = some r := by rw [if_pos rfl] at H; exact H
            clear H
            have H := H1
            clear H1
            by_cases c213 : (rd t331 x8_1) < t336
            ·rw [if_pos c213] at H
             have c213b0 : decide ((rd t331 x8_1) < t336) = true := decide_eq_true c213
             clear c213
             obtain rfl := Option.some.inj H
             have hnb214 := NB346_344.out
             have hnc214 := NB344_346.out
             have hnb215 := NB346_345.out
             have hnc215 := NB345_346.out
             have hcz216_0 : wc.cell? ⟨gb346, 0, none⟩ = some (.int .i64 x347000_1) := (blk_cell BK346.out 0).trans rfl
             have hcz216_1 : wc.cell? ⟨gb346, 1, none⟩ = some (.int .i64 x347001_1) := (blk_cell BK346.out 1).trans rfl
             have hcz216_2 : wc.cell? ⟨gb346, 2, none⟩ = some (.int .i64 x347002_1) := (blk_cell BK346.out 2).trans rfl
             have hcz216_3 : wc.cell? ⟨gb346, 3, none⟩ = some (.int .i64 x347003_1) := (blk_cell BK346.out 3).trans rfl
             have hfz216_0 := blk_frozen BK346.out 0
             have hfz216_1 := blk_frozen BK346.out 1
             have hfz216_2 := blk_frozen BK346.out 2
             have hfz216_3 := blk_frozen BK346.out 3
             have hnb217 := NB344_345.out
             have hnc217 := NB345_344.out
             have hcz218_0 : wc.cell? ⟨gb344, 0, none⟩ = some (.int .i64 t334) := (blk_cell BK344.out 0).trans rfl
             have hcz218_1 : wc.cell? ⟨gb344, 1, none⟩ = some (.int .i64 t335) := (blk_cell BK344.out 1).trans rfl
             have hcz218_2 : wc.cell? ⟨gb344, 2, none⟩ = some (.int .i64 t336) := (blk_cell BK344.out 2).trans rfl
             have hcz218_3 : wc.cell? ⟨gb344, 3, none⟩ = some (.int .i64 t337) := (blk_cell BK344.out 3).trans rfl
             have hcz218_4 : wc.cell? ⟨gb344, 4, none⟩ = some (.int .i64 t338) := (blk_cell BK344.out 4).trans rfl
             have hcz218_5 : wc.cell? ⟨gb344, 5, none⟩ = some (.int .i64 t339) := (blk_cell BK344.out 5).trans rfl
             have hcz218_6 : wc.cell? ⟨gb344, 6, none⟩ = some (.int .i64 t340) := (blk_cell BK344.out 6).trans rfl
             have hcz218_7 : wc.cell? ⟨gb344, 7, none⟩ = some (.int .i64 t341) := (blk_cell BK344.out 7).trans rfl
             have hcz218_8 : wc.cell? ⟨gb344, 8, none⟩ = some (.int .i64 t342) := (blk_cell BK344.out 8).trans rfl
             have hcz218_9 : wc.cell? ⟨gb344, 9, none⟩ = some (.int .i64 t343) := (blk_cell BK344.out 9).trans rfl
             have hfz218_0 := blk_frozen BK344.out 0
             have hfz218_1 := blk_frozen BK344.out 1
             have hfz218_2 := blk_frozen BK344.out 2
             have hfz218_3 := blk_frozen BK344.out 3
             have hfz218_4 := blk_frozen BK344.out 4
             have hfz218_5 := blk_frozen BK344.out 5
             have hfz218_6 := blk_frozen BK344.out 6
             have hfz218_7 := blk_frozen BK344.out 7
             have hfz218_8 := blk_frozen BK344.out 8
             have hfz218_9 := blk_frozen BK344.out 9
             go_wp2
             go_ret
             exact ⟨by first | rfl | (simp [errW_none, errW_some] <;> rfl) | (simp [*, errW_none, errW_some] <;> rfl), by repeat (first | (with_reducible first | exact HB.out | apply below_alloc | apply pw_below_drewN | apply below_drew1 | refine below_set ?_ GE344.out | refine below_set ?_ GE345.out | refine below_set ?_ GE346.out) | exact HB.out)⟩
            ·rw [if_neg c213] at H
             have c213b0 : decide ((rd t331 x8_1) < t336) = false := decide_eq_false c213
             clear c213
             by_cases c219 : (rd t331 x8_1) > t337
             ·rw [if_pos c219] at H
              have c219b0 : decide (t337 < (rd t331 x8_1)) = true := decide_eq_true c219
              clear c219
              obtain rfl := Option.some.inj H
              have hnb220 := NB346_344.out
              have hnc220 := NB344_346.out
              have hnb221 := NB346_345.out
              have hnc221 := NB345_346.out
              have hcz222_0 : wc.cell? ⟨gb346, 0, none⟩ = some (.int .i64 x347000_1) := (blk_cell BK346.out 0).trans rfl
              have hcz222_1 : wc.cell? ⟨gb346, 1, none⟩ = some (.int .i64 x347001_1) := (blk_cell BK346.out 1).trans rfl
              have hcz222_2 : wc.cell? ⟨gb346, 2, none⟩ = some (.int .i64 x347002_1) := (blk_cell BK346.out 2).trans rfl
              have hcz222_3 : wc.cell? ⟨gb346, 3, none⟩ = some (.int .i64 x347003_1) := (blk_cell BK346.out 3).trans rfl
              have hfz222_0 := blk_frozen BK346.out 0
              have hfz222_1 := blk_frozen BK346.out 1
              have hfz222_2 := blk_frozen BK346.out 2
              have hfz222_3 := blk_frozen BK346.out 3
              have hnb223 := NB344_345.out
              have hnc223 := NB345_344.out
              have hcz224_0 : wc.cell? ⟨gb344, 0, none⟩ = some (.int .i64 t334) := (blk_cell BK344.out 0).trans rfl
              have hcz224_1 : wc.cell? ⟨gb344, 1, none⟩ = some (.int .i64 t335) := (blk_cell BK344.out 1).trans rfl
              have hcz224_2 : wc.cell? ⟨gb344, 2, none⟩ = some (.int .i64 t336) := (blk_cell BK344.out 2).trans rfl
              have hcz224_3 : wc.cell? ⟨gb344, 3, none⟩ = some (.int .i64 t337) := (blk_cell BK344.out 3).trans rfl
              have hcz224_4 : wc.cell? ⟨gb344, 4, none⟩ = some (.int .i64 t338) := (blk_cell BK344.out 4).trans rfl
              have hcz224_5 : wc.cell? ⟨gb344, 5, none⟩ = some (.int .i64 t339) := (blk_cell BK344.out 5).trans rfl
              have hcz224_6 : wc.cell? ⟨gb344, 6, none⟩ = some (.int .i64 t340) := (blk_cell BK344.out 6).trans rfl
              have hcz224_7 : wc.cell? ⟨gb344, 7, none⟩ = some (.int .i64 t341) := (blk_cell BK344.out 7).trans rfl
              have hcz224_8 : wc.cell? ⟨gb344, 8, none⟩ = some (.int .i64 t342) := (blk_cell BK344.out 8).trans rfl
              have hcz224_9 : wc.cell? ⟨gb344, 9, none⟩ = some (.int .i64 t343) := (blk_cell BK344.out 9).trans rfl
              have hfz224_0 := blk_frozen BK344.out 0
              have hfz224_1 := blk_frozen BK344.out 1
              have hfz224_2 := blk_frozen BK344.out 2
              have hfz224_3 := blk_frozen BK344.out 3
              have hfz224_4 := blk_frozen BK344.out 4
              have hfz224_5 := blk_frozen BK344.out 5
              have hfz224_6 := blk_frozen BK344.out 6
              have hfz224_7 := blk_frozen BK344.out 7
              have hfz224_8 := blk_frozen BK344.out 8
              have hfz224_9 := blk_frozen BK344.out 9
              go_wp2
              go_ret
              exact ⟨by first | rfl | (simp [errW_none, errW_some] <;> rfl) | (simp [*, errW_none, errW_some] <;> rfl), by repeat (first | (with_reducible first | exact HB.out | apply below_alloc | apply pw_below_drewN | apply below_drew1 | refine below_set ?_ GE344.out | refine below_set ?_ GE345.out | refine below_set ?_ GE346.out) | exact HB.out)⟩
             ·rw [if_neg c219] at H
              have c219b0 : decide (t337 < (rd t331 x8_1)) = false := decide_eq_false c219
              clear c219
              have H' := Aside0.mk H
              clear H
              have hnb225 := NB346_344.out
              have hnc225 := NB344_346.out
              have hnb226 := NB346_345.out
              have hnc226 := NB345_346.out
              have hcz227_0 : wc.cell? ⟨gb346, 0, none⟩ = some (.int .i64 x347000_1) := (blk_cell BK346.out 0).trans rfl
              have hcz227_1 : wc.cell? ⟨gb346, 1, none⟩ = some (.int .i64 x347001_1) := (blk_cell BK346.out 1).trans rfl
              have hcz227_2 : wc.cell? ⟨gb346, 2, none⟩ = some (.int .i64 x347002_1) := (blk_cell BK346.out 2).trans rfl
              have hcz227_3 : wc.cell? ⟨gb346, 3, none⟩ = some (.int .i64 x347003_1) := (blk_cell BK346.out 3).trans rfl
              have hfz227_0 := blk_frozen BK346.out 0
              have hfz227_1 := blk_frozen BK346.out 1
              have hfz227_2 := blk_frozen BK346.out 2
              have hfz227_3 := blk_frozen BK346.out 3
              have hnb228 := NB344_345.out
              have hnc228 := NB345_344.out
              have hcz229_0 : wc.cell? ⟨gb344, 0, none⟩ = some (.int .i64 t334) := (blk_cell BK344.out 0).trans rfl
              have hcz229_1 : wc.cell? ⟨gb344, 1, none⟩ = some (.int .i64 t335) := (blk_cell BK344.out 1).trans rfl
              have hcz229_2 : wc.cell? ⟨gb344, 2, none⟩ = some (.int .i64 t336) := (blk_cell BK344.out 2).trans rfl
              have hcz229_3 : wc.cell? ⟨gb344, 3, none⟩ = some (.int .i64 t337) := (blk_cell BK344.out 3).trans rfl
              have hcz229_4 : wc.cell? ⟨gb344, 4, none⟩ = some (.int .i64 t338) := (blk_cell BK344.out 4).trans rfl
              have hcz229_5 : wc.cell? ⟨gb344, 5, none⟩ = some (.int .i64 t339) := (blk_cell BK344.out 5).trans rfl
              have hcz229_6 : wc.cell? ⟨gb344, 6, none⟩ = some (.int .i64 t340) := (blk_cell BK344.out 6).trans rfl
              have hcz229_7 : wc.cell? ⟨gb344, 7, none⟩ = some (.int .i64 t341) := (blk_cell BK344.out 7).trans rfl
              have hcz229_8 : wc.cell? ⟨gb344, 8, none⟩ = some (.int .i64 t342) := (blk_cell BK344.out 8).trans rfl
              have hcz229_9 : wc.cell? ⟨gb344, 9, none⟩ = some (.int .i64 t343) := (blk_cell BK344.out 9).trans rfl
              have hfz229_0 := blk_frozen BK344.out 0
              have hfz229_1 := blk_frozen BK344.out 1
              have hfz229_2 := blk_frozen BK344.out 2
              have hfz229_3 := blk_frozen BK344.out 3
              have hfz229_4 := blk_frozen BK344.out 4
              have hfz229_5 := blk_frozen BK344.out 5
              have hfz229_6 := blk_frozen BK344.out 6
              have hfz229_7 := blk_frozen BK344.out 7
              have hfz229_8 := blk_frozen BK344.out 8
              have hfz229_9 := blk_frozen BK344.out 9
              go_wp2
              go_roundg kj12
              case measure => have := HK1.out; have := HJ12.out; omega
              case rel => exact ⟨(((rd t331 x8_1) == t336)), (true), (wrap64 (x8_1 + 1)), (x346000_12), (x346001_12), (x346002_12), (x346003_12), (x347000_1), (x347001_1), (wrap64 (x347002_1 + 1)), (x347003_1), (by first | rfl | (simp; done) | (simp [*]; done) | (simp [wrap64]; done)), (by first | rfl | (simp; done) | (simp [*]; done) | (simp [wrap64]; done)), (by first | rfl | (simp; done) | (simp [*]; done) | (simp [wrap64]; done)), H', ⟨by have := HK1.out; have := HJ12.out; omega⟩, ⟨by (with_reducible repeat (first | apply Kd.V_alloc | apply Kd.V_drewN | apply Kd.V_drew)); exact Kd.V_mono (Kd.V_far (p := ⟨gb346, 2, none⟩) (Kd.V_mono HO_0.out (fun k_ hk => (⟨hk, hk.2.2⟩ : _ ∧ k_ ≠ gb346))) (fun _ hk => hk.2) (.int .i64 (wrap64 (x347002_1 + 1)))) (fun _ hk => ⟨hk.1.1, ⟨hk.1.2.1, hk.1.2.2⟩⟩)⟩, ⟨by (with_reducible repeat (first | refine blk_drewN ?_ _ | refine blk_drew ?_ | refine blk_alloc ?_ _)); refine blk_far ?_ NB344_346.out _; (with_reducible repeat (first | refine blk_drewN ?_ _ | refine blk_drew ?_ | refine blk_alloc ?_ _)); exact BK344.out⟩, ⟨by (with_reducible repeat (first | refine blk_drewN ?_ _ | refine blk_drew ?_ | refine blk_alloc ?_ _)); refine blk_far ?_ NB345_346.out _; (with_reducible repeat (first | refine blk_drewN ?_ _ | refine blk_drew ?_ | refine blk_alloc ?_ _)); exact BK345.out⟩, ⟨by (with_reducible repeat (first | refine blk_drewN ?_ _ | refine blk_drew ?_ | refine blk_alloc ?_ _)); refine blk_put (cs := #[.int .i64 x347000_1, .int .i64 x347001_1, .int .i64 x347002_1, .int .i64 x347003_1]) ?_ 2 _ rfl; (with_reducible repeat (first | refine blk_drewN ?_ _ | refine blk_drew ?_ | refine blk_alloc ?_ _)); exact BK346.out⟩, ⟨by repeat (first | (with_reducible first | exact HB.out | apply below_alloc | apply pw_below_drewN | apply below_drew1 | refine below_set ?_ GE344.out | refine below_set ?_ GE345.out | refine below_set ?_ GE346.out) | exact HB.out)⟩⟩
           ·replace c212 := Bool.eq_false_iff.mpr c212
            subst c212
            have H1 : (if (rd t331 x8_1) < t336 then (some false) else (if (rd t331 x8_1) > t337 then (some false) else (headgatelaw15_FoldCounts.l0 kj12 t331 ((rd t331 x8_1) == t336) ((rd t331 x8_1) == t337) (wrap64 (x8_1 + 1)) t334 t335 t336 t337 t338 t339 t340 t341 t342 t343 x346000_12 x346001_12 x346002_12 x346003_12 x347000_1 x347001_1 (wrap64 (x347002_1 + 1)) x347003_1))) = some r := by rw [if_neg (show ¬ (false = true) by decide)] at H; exact H
            clear H
            have H := H1
            clear H1
            by_cases c230 : (rd t331 x8_1) < t336
            ·rw [if_pos c230] at H
             have c230b0 : decide ((rd t331 x8_1) < t336) = true := decide_eq_true c230
             clear c230
             obtain rfl := Option.some.inj H
             have hnb231 := NB346_344.out
             have hnc231 := NB344_346.out
             have hnb232 := NB346_345.out
             have hnc232 := NB345_346.out
             have hcz233_0 : wc.cell? ⟨gb346, 0, none⟩ = some (.int .i64 x347000_1) := (blk_cell BK346.out 0).trans rfl
             have hcz233_1 : wc.cell? ⟨gb346, 1, none⟩ = some (.int .i64 x347001_1) := (blk_cell BK346.out 1).trans rfl
             have hcz233_2 : wc.cell? ⟨gb346, 2, none⟩ = some (.int .i64 x347002_1) := (blk_cell BK346.out 2).trans rfl
             have hcz233_3 : wc.cell? ⟨gb346, 3, none⟩ = some (.int .i64 x347003_1) := (blk_cell BK346.out 3).trans rfl
             have hfz233_0 := blk_frozen BK346.out 0
             have hfz233_1 := blk_frozen BK346.out 1
             have hfz233_2 := blk_frozen BK346.out 2
             have hfz233_3 := blk_frozen BK346.out 3
             have hnb234 := NB344_345.out
             have hnc234 := NB345_344.out
             have hcz235_0 : wc.cell? ⟨gb344, 0, none⟩ = some (.int .i64 t334) := (blk_cell BK344.out 0).trans rfl
             have hcz235_1 : wc.cell? ⟨gb344, 1, none⟩ = some (.int .i64 t335) := (blk_cell BK344.out 1).trans rfl
             have hcz235_2 : wc.cell? ⟨gb344, 2, none⟩ = some (.int .i64 t336) := (blk_cell BK344.out 2).trans rfl
             have hcz235_3 : wc.cell? ⟨gb344, 3, none⟩ = some (.int .i64 t337) := (blk_cell BK344.out 3).trans rfl
             have hcz235_4 : wc.cell? ⟨gb344, 4, none⟩ = some (.int .i64 t338) := (blk_cell BK344.out 4).trans rfl
             have hcz235_5 : wc.cell? ⟨gb344, 5, none⟩ = some (.int .i64 t339) := (blk_cell BK344.out 5).trans rfl
             have hcz235_6 : wc.cell? ⟨gb344, 6, none⟩ = some (.int .i64 t340) := (blk_cell BK344.out 6).trans rfl
             have hcz235_7 : wc.cell? ⟨gb344, 7, none⟩ = some (.int .i64 t341) := (blk_cell BK344.out 7).trans rfl
             have hcz235_8 : wc.cell? ⟨gb344, 8, none⟩ = some (.int .i64 t342) := (blk_cell BK344.out 8).trans rfl
             have hcz235_9 : wc.cell? ⟨gb344, 9, none⟩ = some (.int .i64 t343) := (blk_cell BK344.out 9).trans rfl
             have hfz235_0 := blk_frozen BK344.out 0
             have hfz235_1 := blk_frozen BK344.out 1
             have hfz235_2 := blk_frozen BK344.out 2
             have hfz235_3 := blk_frozen BK344.out 3
             have hfz235_4 := blk_frozen BK344.out 4
             have hfz235_5 := blk_frozen BK344.out 5
             have hfz235_6 := blk_frozen BK344.out 6
             have hfz235_7 := blk_frozen BK344.out 7
             have hfz235_8 := blk_frozen BK344.out 8
             have hfz235_9 := blk_frozen BK344.out 9
             go_wp2
             go_ret
             exact ⟨by first | rfl | (simp [errW_none, errW_some] <;> rfl) | (simp [*, errW_none, errW_some] <;> rfl), by repeat (first | (with_reducible first | exact HB.out | apply below_alloc | apply pw_below_drewN | apply below_drew1 | refine below_set ?_ GE344.out | refine below_set ?_ GE345.out | refine below_set ?_ GE346.out) | exact HB.out)⟩
            ·rw [if_neg c230] at H
             have c230b0 : decide ((rd t331 x8_1) < t336) = false := decide_eq_false c230
             clear c230
             by_cases c236 : (rd t331 x8_1) > t337
             ·rw [if_pos c236] at H
              have c236b0 : decide (t337 < (rd t331 x8_1)) = true := decide_eq_true c236
              clear c236
              obtain rfl := Option.some.inj H
              have hnb237 := NB346_344.out
              have hnc237 := NB344_346.out
              have hnb238 := NB346_345.out
              have hnc238 := NB345_346.out
              have hcz239_0 : wc.cell? ⟨gb346, 0, none⟩ = some (.int .i64 x347000_1) := (blk_cell BK346.out 0).trans rfl
              have hcz239_1 : wc.cell? ⟨gb346, 1, none⟩ = some (.int .i64 x347001_1) := (blk_cell BK346.out 1).trans rfl
              have hcz239_2 : wc.cell? ⟨gb346, 2, none⟩ = some (.int .i64 x347002_1) := (blk_cell BK346.out 2).trans rfl
              have hcz239_3 : wc.cell? ⟨gb346, 3, none⟩ = some (.int .i64 x347003_1) := (blk_cell BK346.out 3).trans rfl
              have hfz239_0 := blk_frozen BK346.out 0
              have hfz239_1 := blk_frozen BK346.out 1
              have hfz239_2 := blk_frozen BK346.out 2
              have hfz239_3 := blk_frozen BK346.out 3
              have hnb240 := NB344_345.out
              have hnc240 := NB345_344.out
              have hcz241_0 : wc.cell? ⟨gb344, 0, none⟩ = some (.int .i64 t334) := (blk_cell BK344.out 0).trans rfl
              have hcz241_1 : wc.cell? ⟨gb344, 1, none⟩ = some (.int .i64 t335) := (blk_cell BK344.out 1).trans rfl
              have hcz241_2 : wc.cell? ⟨gb344, 2, none⟩ = some (.int .i64 t336) := (blk_cell BK344.out 2).trans rfl
              have hcz241_3 : wc.cell? ⟨gb344, 3, none⟩ = some (.int .i64 t337) := (blk_cell BK344.out 3).trans rfl
              have hcz241_4 : wc.cell? ⟨gb344, 4, none⟩ = some (.int .i64 t338) := (blk_cell BK344.out 4).trans rfl
              have hcz241_5 : wc.cell? ⟨gb344, 5, none⟩ = some (.int .i64 t339) := (blk_cell BK344.out 5).trans rfl
              have hcz241_6 : wc.cell? ⟨gb344, 6, none⟩ = some (.int .i64 t340) := (blk_cell BK344.out 6).trans rfl
              have hcz241_7 : wc.cell? ⟨gb344, 7, none⟩ = some (.int .i64 t341) := (blk_cell BK344.out 7).trans rfl
              have hcz241_8 : wc.cell? ⟨gb344, 8, none⟩ = some (.int .i64 t342) := (blk_cell BK344.out 8).trans rfl
              have hcz241_9 : wc.cell? ⟨gb344, 9, none⟩ = some (.int .i64 t343) := (blk_cell BK344.out 9).trans rfl
              have hfz241_0 := blk_frozen BK344.out 0
              have hfz241_1 := blk_frozen BK344.out 1
              have hfz241_2 := blk_frozen BK344.out 2
              have hfz241_3 := blk_frozen BK344.out 3
              have hfz241_4 := blk_frozen BK344.out 4
              have hfz241_5 := blk_frozen BK344.out 5
              have hfz241_6 := blk_frozen BK344.out 6
              have hfz241_7 := blk_frozen BK344.out 7
              have hfz241_8 := blk_frozen BK344.out 8
              have hfz241_9 := blk_frozen BK344.out 9
              go_wp2
              go_ret
              exact ⟨by first | rfl | (simp [errW_none, errW_some] <;> rfl) | (simp [*, errW_none, errW_some] <;> rfl), by repeat (first | (with_reducible first | exact HB.out | apply below_alloc | apply pw_below_drewN | apply below_drew1 | refine below_set ?_ GE344.out | refine below_set ?_ GE345.out | refine below_set ?_ GE346.out) | exact HB.out)⟩
             ·rw [if_neg c236] at H
              have c236b0 : decide (t337 < (rd t331 x8_1)) = false := decide_eq_false c236
              clear c236
              have H' := Aside0.mk H
              clear H
              have hnb242 := NB346_344.out
              have hnc242 := NB344_346.out
              have hnb243 := NB346_345.out
              have hnc243 := NB345_346.out
              have hcz244_0 : wc.cell? ⟨gb346, 0, none⟩ = some (.int .i64 x347000_1) := (blk_cell BK346.out 0).trans rfl
              have hcz244_1 : wc.cell? ⟨gb346, 1, none⟩ = some (.int .i64 x347001_1) := (blk_cell BK346.out 1).trans rfl
              have hcz244_2 : wc.cell? ⟨gb346, 2, none⟩ = some (.int .i64 x347002_1) := (blk_cell BK346.out 2).trans rfl
              have hcz244_3 : wc.cell? ⟨gb346, 3, none⟩ = some (.int .i64 x347003_1) := (blk_cell BK346.out 3).trans rfl
              have hfz244_0 := blk_frozen BK346.out 0
              have hfz244_1 := blk_frozen BK346.out 1
              have hfz244_2 := blk_frozen BK346.out 2
              have hfz244_3 := blk_frozen BK346.out 3
              have hnb245 := NB344_345.out
              have hnc245 := NB345_344.out
              have hcz246_0 : wc.cell? ⟨gb344, 0, none⟩ = some (.int .i64 t334) := (blk_cell BK344.out 0).trans rfl
              have hcz246_1 : wc.cell? ⟨gb344, 1, none⟩ = some (.int .i64 t335) := (blk_cell BK344.out 1).trans rfl
              have hcz246_2 : wc.cell? ⟨gb344, 2, none⟩ = some (.int .i64 t336) := (blk_cell BK344.out 2).trans rfl
              have hcz246_3 : wc.cell? ⟨gb344, 3, none⟩ = some (.int .i64 t337) := (blk_cell BK344.out 3).trans rfl
              have hcz246_4 : wc.cell? ⟨gb344, 4, none⟩ = some (.int .i64 t338) := (blk_cell BK344.out 4).trans rfl
              have hcz246_5 : wc.cell? ⟨gb344, 5, none⟩ = some (.int .i64 t339) := (blk_cell BK344.out 5).trans rfl
              have hcz246_6 : wc.cell? ⟨gb344, 6, none⟩ = some (.int .i64 t340) := (blk_cell BK344.out 6).trans rfl
              have hcz246_7 : wc.cell? ⟨gb344, 7, none⟩ = some (.int .i64 t341) := (blk_cell BK344.out 7).trans rfl
              have hcz246_8 : wc.cell? ⟨gb344, 8, none⟩ = some (.int .i64 t342) := (blk_cell BK344.out 8).trans rfl
              have hcz246_9 : wc.cell? ⟨gb344, 9, none⟩ = some (.int .i64 t343) := (blk_cell BK344.out 9).trans rfl
              have hfz246_0 := blk_frozen BK344.out 0
              have hfz246_1 := blk_frozen BK344.out 1
              have hfz246_2 := blk_frozen BK344.out 2
              have hfz246_3 := blk_frozen BK344.out 3
              have hfz246_4 := blk_frozen BK344.out 4
              have hfz246_5 := blk_frozen BK344.out 5
              have hfz246_6 := blk_frozen BK344.out 6
              have hfz246_7 := blk_frozen BK344.out 7
              have hfz246_8 := blk_frozen BK344.out 8
              have hfz246_9 := blk_frozen BK344.out 9
              go_wp2
              go_roundg kj12
              case measure => have := HK1.out; have := HJ12.out; omega
              case rel => exact ⟨(((rd t331 x8_1) == t336)), (((rd t331 x8_1) == t337)), (wrap64 (x8_1 + 1)), (x346000_12), (x346001_12), (x346002_12), (x346003_12), (x347000_1), (x347001_1), (wrap64 (x347002_1 + 1)), (x347003_1), (by first | rfl | (simp; done) | (simp [*]; done) | (simp [wrap64]; done)), (by first | rfl | (simp; done) | (simp [*]; done) | (simp [wrap64]; done)), (by first | rfl | (simp; done) | (simp [*]; done) | (simp [wrap64]; done)), H', ⟨by have := HK1.out; have := HJ12.out; omega⟩, ⟨by (with_reducible repeat (first | apply Kd.V_alloc | apply Kd.V_drewN | apply Kd.V_drew)); exact Kd.V_mono (Kd.V_far (p := ⟨gb346, 2, none⟩) (Kd.V_mono HO_0.out (fun k_ hk => (⟨hk, hk.2.2⟩ : _ ∧ k_ ≠ gb346))) (fun _ hk => hk.2) (.int .i64 (wrap64 (x347002_1 + 1)))) (fun _ hk => ⟨hk.1.1, ⟨hk.1.2.1, hk.1.2.2⟩⟩)⟩, ⟨by (with_reducible repeat (first | refine blk_drewN ?_ _ | refine blk_drew ?_ | refine blk_alloc ?_ _)); refine blk_far ?_ NB344_346.out _; (with_reducible repeat (first | refine blk_drewN ?_ _ | refine blk_drew ?_ | refine blk_alloc ?_ _)); exact BK344.out⟩, ⟨by (with_reducible repeat (first | refine blk_drewN ?_ _ | refine blk_drew ?_ | refine blk_alloc ?_ _)); refine blk_far ?_ NB345_346.out _; (with_reducible repeat (first | refine blk_drewN ?_ _ | refine blk_drew ?_ | refine blk_alloc ?_ _)); exact BK345.out⟩, ⟨by (with_reducible repeat (first | refine blk_drewN ?_ _ | refine blk_drew ?_ | refine blk_alloc ?_ _)); refine blk_put (cs := #[.int .i64 x347000_1, .int .i64 x347001_1, .int .i64 x347002_1, .int .i64 x347003_1]) ?_ 2 _ rfl; (with_reducible repeat (first | refine blk_drewN ?_ _ | refine blk_drew ?_ | refine blk_alloc ?_ _)); exact BK346.out⟩, ⟨by repeat (first | (with_reducible first | exact HB.out | apply below_alloc | apply pw_below_drewN | apply below_drew1 | refine below_set ?_ GE344.out | refine below_set ?_ GE345.out | refine below_set ?_ GE346.out) | exact HB.out)⟩⟩
         ·rw [if_neg c175] at H
          have c175b0 : decide ((rd t331 x8_1) < 100) = false := decide_eq_false c175
          clear c175
          by_cases c247 : x6_1 = true
          ·subst c247
           have H1 : (if x7_1 = true then (if (rd t331 x8_1) < t336 then (some false) else (if (rd t331 x8_1) > t337 then (some false) else (headgatelaw15_FoldCounts.l0 kj12 t331 true true (wrap64 (x8_1 + 1)) t334 t335 t336 t337 t338 t339 t340 t341 t342 t343 x346000_12 x346001_12 x346002_12 x346003_12 x347000_1 x347001_1 x347002_1 (wrap64 (x347003_1 + 1))))) else (if (rd t331 x8_1) < t336 then (some false) else (if (rd t331 x8_1) > t337 then (some false) else (headgatelaw15_FoldCounts.l0 kj12 t331 true ((rd t331 x8_1) == t337) (wrap64 (x8_1 + 1)) t334 t335 t336 t337 t338 t339 t340 t341 t342 t343 x346000_12 x346001_12 x346002_12 x346003_12 x347000_1 x347001_1 x347002_1 (wrap64 (x347003_1 + 1)))))) = some r := by rw [if_pos rfl] at H; exact H
           clear H
           have H := H1
           clear H1
           by_cases c248 : x7_1 = true
           ·subst c248
            have H1 : (if (rd t331 x8_1) < t336 then (some false) else (if (rd t331 x8_1) > t337 then (some false) else (headgatelaw15_FoldCounts.l0 kj12 t331 true true (wrap64 (x8_1 + 1)) t334 t335 t336 t337 t338 t339 t340 t341 t342 t343 x346000_12 x346001_12 x346002_12 x346003_12 x347000_1 x347001_1 x347002_1 (wrap64 (x347003_1 + 1))))) = some r := by rw [if_pos rfl] at H; exact H
            clear H
            have H := H1
            clear H1
            by_cases c249 : (rd t331 x8_1) < t336
            ·rw [if_pos c249] at H
             have c249b0 : decide ((rd t331 x8_1) < t336) = true := decide_eq_true c249
             clear c249
             obtain rfl := Option.some.inj H
             have hnb250 := NB346_344.out
             have hnc250 := NB344_346.out
             have hnb251 := NB346_345.out
             have hnc251 := NB345_346.out
             have hcz252_0 : wc.cell? ⟨gb346, 0, none⟩ = some (.int .i64 x347000_1) := (blk_cell BK346.out 0).trans rfl
             have hcz252_1 : wc.cell? ⟨gb346, 1, none⟩ = some (.int .i64 x347001_1) := (blk_cell BK346.out 1).trans rfl
             have hcz252_2 : wc.cell? ⟨gb346, 2, none⟩ = some (.int .i64 x347002_1) := (blk_cell BK346.out 2).trans rfl
             have hcz252_3 : wc.cell? ⟨gb346, 3, none⟩ = some (.int .i64 x347003_1) := (blk_cell BK346.out 3).trans rfl
             have hfz252_0 := blk_frozen BK346.out 0
             have hfz252_1 := blk_frozen BK346.out 1
             have hfz252_2 := blk_frozen BK346.out 2
             have hfz252_3 := blk_frozen BK346.out 3
             have hnb253 := NB344_345.out
             have hnc253 := NB345_344.out
             have hcz254_0 : wc.cell? ⟨gb344, 0, none⟩ = some (.int .i64 t334) := (blk_cell BK344.out 0).trans rfl
             have hcz254_1 : wc.cell? ⟨gb344, 1, none⟩ = some (.int .i64 t335) := (blk_cell BK344.out 1).trans rfl
             have hcz254_2 : wc.cell? ⟨gb344, 2, none⟩ = some (.int .i64 t336) := (blk_cell BK344.out 2).trans rfl
             have hcz254_3 : wc.cell? ⟨gb344, 3, none⟩ = some (.int .i64 t337) := (blk_cell BK344.out 3).trans rfl
             have hcz254_4 : wc.cell? ⟨gb344, 4, none⟩ = some (.int .i64 t338) := (blk_cell BK344.out 4).trans rfl
             have hcz254_5 : wc.cell? ⟨gb344, 5, none⟩ = some (.int .i64 t339) := (blk_cell BK344.out 5).trans rfl
             have hcz254_6 : wc.cell? ⟨gb344, 6, none⟩ = some (.int .i64 t340) := (blk_cell BK344.out 6).trans rfl
             have hcz254_7 : wc.cell? ⟨gb344, 7, none⟩ = some (.int .i64 t341) := (blk_cell BK344.out 7).trans rfl
             have hcz254_8 : wc.cell? ⟨gb344, 8, none⟩ = some (.int .i64 t342) := (blk_cell BK344.out 8).trans rfl
             have hcz254_9 : wc.cell? ⟨gb344, 9, none⟩ = some (.int .i64 t343) := (blk_cell BK344.out 9).trans rfl
             have hfz254_0 := blk_frozen BK344.out 0
             have hfz254_1 := blk_frozen BK344.out 1
             have hfz254_2 := blk_frozen BK344.out 2
             have hfz254_3 := blk_frozen BK344.out 3
             have hfz254_4 := blk_frozen BK344.out 4
             have hfz254_5 := blk_frozen BK344.out 5
             have hfz254_6 := blk_frozen BK344.out 6
             have hfz254_7 := blk_frozen BK344.out 7
             have hfz254_8 := blk_frozen BK344.out 8
             have hfz254_9 := blk_frozen BK344.out 9
             go_wp2
             go_ret
             exact ⟨by first | rfl | (simp [errW_none, errW_some] <;> rfl) | (simp [*, errW_none, errW_some] <;> rfl), by repeat (first | (with_reducible first | exact HB.out | apply below_alloc | apply pw_below_drewN | apply below_drew1 | refine below_set ?_ GE344.out | refine below_set ?_ GE345.out | refine below_set ?_ GE346.out) | exact HB.out)⟩
            ·rw [if_neg c249] at H
             have c249b0 : decide ((rd t331 x8_1) < t336) = false := decide_eq_false c249
             clear c249
             by_cases c255 : (rd t331 x8_1) > t337
             ·rw [if_pos c255] at H
              have c255b0 : decide (t337 < (rd t331 x8_1)) = true := decide_eq_true c255
              clear c255
              obtain rfl := Option.some.inj H
              have hnb256 := NB346_344.out
              have hnc256 := NB344_346.out
              have hnb257 := NB346_345.out
              have hnc257 := NB345_346.out
              have hcz258_0 : wc.cell? ⟨gb346, 0, none⟩ = some (.int .i64 x347000_1) := (blk_cell BK346.out 0).trans rfl
              have hcz258_1 : wc.cell? ⟨gb346, 1, none⟩ = some (.int .i64 x347001_1) := (blk_cell BK346.out 1).trans rfl
              have hcz258_2 : wc.cell? ⟨gb346, 2, none⟩ = some (.int .i64 x347002_1) := (blk_cell BK346.out 2).trans rfl
              have hcz258_3 : wc.cell? ⟨gb346, 3, none⟩ = some (.int .i64 x347003_1) := (blk_cell BK346.out 3).trans rfl
              have hfz258_0 := blk_frozen BK346.out 0
              have hfz258_1 := blk_frozen BK346.out 1
              have hfz258_2 := blk_frozen BK346.out 2
              have hfz258_3 := blk_frozen BK346.out 3
              have hnb259 := NB344_345.out
              have hnc259 := NB345_344.out
              have hcz260_0 : wc.cell? ⟨gb344, 0, none⟩ = some (.int .i64 t334) := (blk_cell BK344.out 0).trans rfl
              have hcz260_1 : wc.cell? ⟨gb344, 1, none⟩ = some (.int .i64 t335) := (blk_cell BK344.out 1).trans rfl
              have hcz260_2 : wc.cell? ⟨gb344, 2, none⟩ = some (.int .i64 t336) := (blk_cell BK344.out 2).trans rfl
              have hcz260_3 : wc.cell? ⟨gb344, 3, none⟩ = some (.int .i64 t337) := (blk_cell BK344.out 3).trans rfl
              have hcz260_4 : wc.cell? ⟨gb344, 4, none⟩ = some (.int .i64 t338) := (blk_cell BK344.out 4).trans rfl
              have hcz260_5 : wc.cell? ⟨gb344, 5, none⟩ = some (.int .i64 t339) := (blk_cell BK344.out 5).trans rfl
              have hcz260_6 : wc.cell? ⟨gb344, 6, none⟩ = some (.int .i64 t340) := (blk_cell BK344.out 6).trans rfl
              have hcz260_7 : wc.cell? ⟨gb344, 7, none⟩ = some (.int .i64 t341) := (blk_cell BK344.out 7).trans rfl
              have hcz260_8 : wc.cell? ⟨gb344, 8, none⟩ = some (.int .i64 t342) := (blk_cell BK344.out 8).trans rfl
              have hcz260_9 : wc.cell? ⟨gb344, 9, none⟩ = some (.int .i64 t343) := (blk_cell BK344.out 9).trans rfl
              have hfz260_0 := blk_frozen BK344.out 0
              have hfz260_1 := blk_frozen BK344.out 1
              have hfz260_2 := blk_frozen BK344.out 2
              have hfz260_3 := blk_frozen BK344.out 3
              have hfz260_4 := blk_frozen BK344.out 4
              have hfz260_5 := blk_frozen BK344.out 5
              have hfz260_6 := blk_frozen BK344.out 6
              have hfz260_7 := blk_frozen BK344.out 7
              have hfz260_8 := blk_frozen BK344.out 8
              have hfz260_9 := blk_frozen BK344.out 9
              go_wp2
              go_ret
              exact ⟨by first | rfl | (simp [errW_none, errW_some] <;> rfl) | (simp [*, errW_none, errW_some] <;> rfl), by repeat (first | (with_reducible first | exact HB.out | apply below_alloc | apply pw_below_drewN | apply below_drew1 | refine below_set ?_ GE344.out | refine below_set ?_ GE345.out | refine below_set ?_ GE346.out) | exact HB.out)⟩
             ·rw [if_neg c255] at H
              have c255b0 : decide (t337 < (rd t331 x8_1)) = false := decide_eq_false c255
              clear c255
              have H' := Aside0.mk H
              clear H
              have hnb261 := NB346_344.out
              have hnc261 := NB344_346.out
              have hnb262 := NB346_345.out
              have hnc262 := NB345_346.out
              have hcz263_0 : wc.cell? ⟨gb346, 0, none⟩ = some (.int .i64 x347000_1) := (blk_cell BK346.out 0).trans rfl
              have hcz263_1 : wc.cell? ⟨gb346, 1, none⟩ = some (.int .i64 x347001_1) := (blk_cell BK346.out 1).trans rfl
              have hcz263_2 : wc.cell? ⟨gb346, 2, none⟩ = some (.int .i64 x347002_1) := (blk_cell BK346.out 2).trans rfl
              have hcz263_3 : wc.cell? ⟨gb346, 3, none⟩ = some (.int .i64 x347003_1) := (blk_cell BK346.out 3).trans rfl
              have hfz263_0 := blk_frozen BK346.out 0
              have hfz263_1 := blk_frozen BK346.out 1
              have hfz263_2 := blk_frozen BK346.out 2
              have hfz263_3 := blk_frozen BK346.out 3
              have hnb264 := NB344_345.out
              have hnc264 := NB345_344.out
              have hcz265_0 : wc.cell? ⟨gb344, 0, none⟩ = some (.int .i64 t334) := (blk_cell BK344.out 0).trans rfl
              have hcz265_1 : wc.cell? ⟨gb344, 1, none⟩ = some (.int .i64 t335) := (blk_cell BK344.out 1).trans rfl
              have hcz265_2 : wc.cell? ⟨gb344, 2, none⟩ = some (.int .i64 t336) := (blk_cell BK344.out 2).trans rfl
              have hcz265_3 : wc.cell? ⟨gb344, 3, none⟩ = some (.int .i64 t337) := (blk_cell BK344.out 3).trans rfl
              have hcz265_4 : wc.cell? ⟨gb344, 4, none⟩ = some (.int .i64 t338) := (blk_cell BK344.out 4).trans rfl
              have hcz265_5 : wc.cell? ⟨gb344, 5, none⟩ = some (.int .i64 t339) := (blk_cell BK344.out 5).trans rfl
              have hcz265_6 : wc.cell? ⟨gb344, 6, none⟩ = some (.int .i64 t340) := (blk_cell BK344.out 6).trans rfl
              have hcz265_7 : wc.cell? ⟨gb344, 7, none⟩ = some (.int .i64 t341) := (blk_cell BK344.out 7).trans rfl
              have hcz265_8 : wc.cell? ⟨gb344, 8, none⟩ = some (.int .i64 t342) := (blk_cell BK344.out 8).trans rfl
              have hcz265_9 : wc.cell? ⟨gb344, 9, none⟩ = some (.int .i64 t343) := (blk_cell BK344.out 9).trans rfl
              have hfz265_0 := blk_frozen BK344.out 0
              have hfz265_1 := blk_frozen BK344.out 1
              have hfz265_2 := blk_frozen BK344.out 2
              have hfz265_3 := blk_frozen BK344.out 3
              have hfz265_4 := blk_frozen BK344.out 4
              have hfz265_5 := blk_frozen BK344.out 5
              have hfz265_6 := blk_frozen BK344.out 6
              have hfz265_7 := blk_frozen BK344.out 7
              have hfz265_8 := blk_frozen BK344.out 8
              have hfz265_9 := blk_frozen BK344.out 9
              go_wp2
              go_roundg kj12
              case measure => have := HK1.out; have := HJ12.out; omega
              case rel => exact ⟨(true), (true), (wrap64 (x8_1 + 1)), (x346000_12), (x346001_12), (x346002_12), (x346003_12), (x347000_1), (x347001_1), (x347002_1), (wrap64 (x347003_1 + 1)), (by first | rfl | (simp; done) | (simp [*]; done) | (simp [wrap64]; done)), (by first | rfl | (simp; done) | (simp [*]; done) | (simp [wrap64]; done)), (by first | rfl | (simp; done) | (simp [*]; done) | (simp [wrap64]; done)), H', ⟨by have := HK1.out; have := HJ12.out; omega⟩, ⟨by (with_reducible repeat (first | apply Kd.V_alloc | apply Kd.V_drewN | apply Kd.V_drew)); exact Kd.V_mono (Kd.V_far (p := ⟨gb346, 3, none⟩) (Kd.V_mono HO_0.out (fun k_ hk => (⟨hk, hk.2.2⟩ : _ ∧ k_ ≠ gb346))) (fun _ hk => hk.2) (.int .i64 (wrap64 (x347003_1 + 1)))) (fun _ hk => ⟨hk.1.1, ⟨hk.1.2.1, hk.1.2.2⟩⟩)⟩, ⟨by (with_reducible repeat (first | refine blk_drewN ?_ _ | refine blk_drew ?_ | refine blk_alloc ?_ _)); refine blk_far ?_ NB344_346.out _; (with_reducible repeat (first | refine blk_drewN ?_ _ | refine blk_drew ?_ | refine blk_alloc ?_ _)); exact BK344.out⟩, ⟨by (with_reducible repeat (first | refine blk_drewN ?_ _ | refine blk_drew ?_ | refine blk_alloc ?_ _)); refine blk_far ?_ NB345_346.out _; (with_reducible repeat (first | refine blk_drewN ?_ _ | refine blk_drew ?_ | refine blk_alloc ?_ _)); exact BK345.out⟩, ⟨by (with_reducible repeat (first | refine blk_drewN ?_ _ | refine blk_drew ?_ | refine blk_alloc ?_ _)); refine blk_put (cs := #[.int .i64 x347000_1, .int .i64 x347001_1, .int .i64 x347002_1, .int .i64 x347003_1]) ?_ 3 _ rfl; (with_reducible repeat (first | refine blk_drewN ?_ _ | refine blk_drew ?_ | refine blk_alloc ?_ _)); exact BK346.out⟩, ⟨by repeat (first | (with_reducible first | exact HB.out | apply below_alloc | apply pw_below_drewN | apply below_drew1 | refine below_set ?_ GE344.out | refine below_set ?_ GE345.out | refine below_set ?_ GE346.out) | exact HB.out)⟩⟩
           ·replace c248 := Bool.eq_false_iff.mpr c248
            subst c248
            have H1 : (if (rd t331 x8_1) < t336 then (some false) else (if (rd t331 x8_1) > t337 then (some false) else (headgatelaw15_FoldCounts.l0 kj12 t331 true ((rd t331 x8_1) == t337) (wrap64 (x8_1 + 1)) t334 t335 t336 t337 t338 t339 t340 t341 t342 t343 x346000_12 x346001_12 x346002_12 x346003_12 x347000_1 x347001_1 x347002_1 (wrap64 (x347003_1 + 1))))) = some r := by rw [if_neg (show ¬ (false = true) by decide)] at H; exact H
            clear H
            have H := H1
            clear H1
            by_cases c266 : (rd t331 x8_1) < t336
            ·rw [if_pos c266] at H
             have c266b0 : decide ((rd t331 x8_1) < t336) = true := decide_eq_true c266
             clear c266
             obtain rfl := Option.some.inj H
             have hnb267 := NB346_344.out
             have hnc267 := NB344_346.out
             have hnb268 := NB346_345.out
             have hnc268 := NB345_346.out
             have hcz269_0 : wc.cell? ⟨gb346, 0, none⟩ = some (.int .i64 x347000_1) := (blk_cell BK346.out 0).trans rfl
             have hcz269_1 : wc.cell? ⟨gb346, 1, none⟩ = some (.int .i64 x347001_1) := (blk_cell BK346.out 1).trans rfl
             have hcz269_2 : wc.cell? ⟨gb346, 2, none⟩ = some (.int .i64 x347002_1) := (blk_cell BK346.out 2).trans rfl
             have hcz269_3 : wc.cell? ⟨gb346, 3, none⟩ = some (.int .i64 x347003_1) := (blk_cell BK346.out 3).trans rfl
             have hfz269_0 := blk_frozen BK346.out 0
             have hfz269_1 := blk_frozen BK346.out 1
             have hfz269_2 := blk_frozen BK346.out 2
             have hfz269_3 := blk_frozen BK346.out 3
             have hnb270 := NB344_345.out
             have hnc270 := NB345_344.out
             have hcz271_0 : wc.cell? ⟨gb344, 0, none⟩ = some (.int .i64 t334) := (blk_cell BK344.out 0).trans rfl
             have hcz271_1 : wc.cell? ⟨gb344, 1, none⟩ = some (.int .i64 t335) := (blk_cell BK344.out 1).trans rfl
             have hcz271_2 : wc.cell? ⟨gb344, 2, none⟩ = some (.int .i64 t336) := (blk_cell BK344.out 2).trans rfl
             have hcz271_3 : wc.cell? ⟨gb344, 3, none⟩ = some (.int .i64 t337) := (blk_cell BK344.out 3).trans rfl
             have hcz271_4 : wc.cell? ⟨gb344, 4, none⟩ = some (.int .i64 t338) := (blk_cell BK344.out 4).trans rfl
             have hcz271_5 : wc.cell? ⟨gb344, 5, none⟩ = some (.int .i64 t339) := (blk_cell BK344.out 5).trans rfl
             have hcz271_6 : wc.cell? ⟨gb344, 6, none⟩ = some (.int .i64 t340) := (blk_cell BK344.out 6).trans rfl
             have hcz271_7 : wc.cell? ⟨gb344, 7, none⟩ = some (.int .i64 t341) := (blk_cell BK344.out 7).trans rfl
             have hcz271_8 : wc.cell? ⟨gb344, 8, none⟩ = some (.int .i64 t342) := (blk_cell BK344.out 8).trans rfl
             have hcz271_9 : wc.cell? ⟨gb344, 9, none⟩ = some (.int .i64 t343) := (blk_cell BK344.out 9).trans rfl
             have hfz271_0 := blk_frozen BK344.out 0
             have hfz271_1 := blk_frozen BK344.out 1
             have hfz271_2 := blk_frozen BK344.out 2
             have hfz271_3 := blk_frozen BK344.out 3
             have hfz271_4 := blk_frozen BK344.out 4
             have hfz271_5 := blk_frozen BK344.out 5
             have hfz271_6 := blk_frozen BK344.out 6
             have hfz271_7 := blk_frozen BK344.out 7
             have hfz271_8 := blk_frozen BK344.out 8
             have hfz271_9 := blk_frozen BK344.out 9
             go_wp2
             go_ret
             exact ⟨by first | rfl | (simp [errW_none, errW_some] <;> rfl) | (simp [*, errW_none, errW_some] <;> rfl), by repeat (first | (with_reducible first | exact HB.out | apply below_alloc | apply pw_below_drewN | apply below_drew1 | refine below_set ?_ GE344.out | refine below_set ?_ GE345.out | refine below_set ?_ GE346.out) | exact HB.out)⟩
            ·rw [if_neg c266] at H
             have c266b0 : decide ((rd t331 x8_1) < t336) = false := decide_eq_false c266
             clear c266
             by_cases c272 : (rd t331 x8_1) > t337
             ·rw [if_pos c272] at H
              have c272b0 : decide (t337 < (rd t331 x8_1)) = true := decide_eq_true c272
              clear c272
              obtain rfl := Option.some.inj H
              have hnb273 := NB346_344.out
              have hnc273 := NB344_346.out
              have hnb274 := NB346_345.out
              have hnc274 := NB345_346.out
              have hcz275_0 : wc.cell? ⟨gb346, 0, none⟩ = some (.int .i64 x347000_1) := (blk_cell BK346.out 0).trans rfl
              have hcz275_1 : wc.cell? ⟨gb346, 1, none⟩ = some (.int .i64 x347001_1) := (blk_cell BK346.out 1).trans rfl
              have hcz275_2 : wc.cell? ⟨gb346, 2, none⟩ = some (.int .i64 x347002_1) := (blk_cell BK346.out 2).trans rfl
              have hcz275_3 : wc.cell? ⟨gb346, 3, none⟩ = some (.int .i64 x347003_1) := (blk_cell BK346.out 3).trans rfl
              have hfz275_0 := blk_frozen BK346.out 0
              have hfz275_1 := blk_frozen BK346.out 1
              have hfz275_2 := blk_frozen BK346.out 2
              have hfz275_3 := blk_frozen BK346.out 3
              have hnb276 := NB344_345.out
              have hnc276 := NB345_344.out
              have hcz277_0 : wc.cell? ⟨gb344, 0, none⟩ = some (.int .i64 t334) := (blk_cell BK344.out 0).trans rfl
              have hcz277_1 : wc.cell? ⟨gb344, 1, none⟩ = some (.int .i64 t335) := (blk_cell BK344.out 1).trans rfl
              have hcz277_2 : wc.cell? ⟨gb344, 2, none⟩ = some (.int .i64 t336) := (blk_cell BK344.out 2).trans rfl
              have hcz277_3 : wc.cell? ⟨gb344, 3, none⟩ = some (.int .i64 t337) := (blk_cell BK344.out 3).trans rfl
              have hcz277_4 : wc.cell? ⟨gb344, 4, none⟩ = some (.int .i64 t338) := (blk_cell BK344.out 4).trans rfl
              have hcz277_5 : wc.cell? ⟨gb344, 5, none⟩ = some (.int .i64 t339) := (blk_cell BK344.out 5).trans rfl
              have hcz277_6 : wc.cell? ⟨gb344, 6, none⟩ = some (.int .i64 t340) := (blk_cell BK344.out 6).trans rfl
              have hcz277_7 : wc.cell? ⟨gb344, 7, none⟩ = some (.int .i64 t341) := (blk_cell BK344.out 7).trans rfl
              have hcz277_8 : wc.cell? ⟨gb344, 8, none⟩ = some (.int .i64 t342) := (blk_cell BK344.out 8).trans rfl
              have hcz277_9 : wc.cell? ⟨gb344, 9, none⟩ = some (.int .i64 t343) := (blk_cell BK344.out 9).trans rfl
              have hfz277_0 := blk_frozen BK344.out 0
              have hfz277_1 := blk_frozen BK344.out 1
              have hfz277_2 := blk_frozen BK344.out 2
              have hfz277_3 := blk_frozen BK344.out 3
              have hfz277_4 := blk_frozen BK344.out 4
              have hfz277_5 := blk_frozen BK344.out 5
              have hfz277_6 := blk_frozen BK344.out 6
              have hfz277_7 := blk_frozen BK344.out 7
              have hfz277_8 := blk_frozen BK344.out 8
              have hfz277_9 := blk_frozen BK344.out 9
              go_wp2
              go_ret
              exact ⟨by first | rfl | (simp [errW_none, errW_some] <;> rfl) | (simp [*, errW_none, errW_some] <;> rfl), by repeat (first | (with_reducible first | exact HB.out | apply below_alloc | apply pw_below_drewN | apply below_drew1 | refine below_set ?_ GE344.out | refine below_set ?_ GE345.out | refine below_set ?_ GE346.out) | exact HB.out)⟩
             ·rw [if_neg c272] at H
              have c272b0 : decide (t337 < (rd t331 x8_1)) = false := decide_eq_false c272
              clear c272
              have H' := Aside0.mk H
              clear H
              have hnb278 := NB346_344.out
              have hnc278 := NB344_346.out
              have hnb279 := NB346_345.out
              have hnc279 := NB345_346.out
              have hcz280_0 : wc.cell? ⟨gb346, 0, none⟩ = some (.int .i64 x347000_1) := (blk_cell BK346.out 0).trans rfl
              have hcz280_1 : wc.cell? ⟨gb346, 1, none⟩ = some (.int .i64 x347001_1) := (blk_cell BK346.out 1).trans rfl
              have hcz280_2 : wc.cell? ⟨gb346, 2, none⟩ = some (.int .i64 x347002_1) := (blk_cell BK346.out 2).trans rfl
              have hcz280_3 : wc.cell? ⟨gb346, 3, none⟩ = some (.int .i64 x347003_1) := (blk_cell BK346.out 3).trans rfl
              have hfz280_0 := blk_frozen BK346.out 0
              have hfz280_1 := blk_frozen BK346.out 1
              have hfz280_2 := blk_frozen BK346.out 2
              have hfz280_3 := blk_frozen BK346.out 3
              have hnb281 := NB344_345.out
              have hnc281 := NB345_344.out
              have hcz282_0 : wc.cell? ⟨gb344, 0, none⟩ = some (.int .i64 t334) := (blk_cell BK344.out 0).trans rfl
              have hcz282_1 : wc.cell? ⟨gb344, 1, none⟩ = some (.int .i64 t335) := (blk_cell BK344.out 1).trans rfl
              have hcz282_2 : wc.cell? ⟨gb344, 2, none⟩ = some (.int .i64 t336) := (blk_cell BK344.out 2).trans rfl
              have hcz282_3 : wc.cell? ⟨gb344, 3, none⟩ = some (.int .i64 t337) := (blk_cell BK344.out 3).trans rfl
              have hcz282_4 : wc.cell? ⟨gb344, 4, none⟩ = some (.int .i64 t338) := (blk_cell BK344.out 4).trans rfl
              have hcz282_5 : wc.cell? ⟨gb344, 5, none⟩ = some (.int .i64 t339) := (blk_cell BK344.out 5).trans rfl
              have hcz282_6 : wc.cell? ⟨gb344, 6, none⟩ = some (.int .i64 t340) := (blk_cell BK344.out 6).trans rfl
              have hcz282_7 : wc.cell? ⟨gb344, 7, none⟩ = some (.int .i64 t341) := (blk_cell BK344.out 7).trans rfl
              have hcz282_8 : wc.cell? ⟨gb344, 8, none⟩ = some (.int .i64 t342) := (blk_cell BK344.out 8).trans rfl
              have hcz282_9 : wc.cell? ⟨gb344, 9, none⟩ = some (.int .i64 t343) := (blk_cell BK344.out 9).trans rfl
              have hfz282_0 := blk_frozen BK344.out 0
              have hfz282_1 := blk_frozen BK344.out 1
              have hfz282_2 := blk_frozen BK344.out 2
              have hfz282_3 := blk_frozen BK344.out 3
              have hfz282_4 := blk_frozen BK344.out 4
              have hfz282_5 := blk_frozen BK344.out 5
              have hfz282_6 := blk_frozen BK344.out 6
              have hfz282_7 := blk_frozen BK344.out 7
              have hfz282_8 := blk_frozen BK344.out 8
              have hfz282_9 := blk_frozen BK344.out 9
              go_wp2
              go_roundg kj12
              case measure => have := HK1.out; have := HJ12.out; omega
              case rel => exact ⟨(true), (((rd t331 x8_1) == t337)), (wrap64 (x8_1 + 1)), (x346000_12), (x346001_12), (x346002_12), (x346003_12), (x347000_1), (x347001_1), (x347002_1), (wrap64 (x347003_1 + 1)), (by first | rfl | (simp; done) | (simp [*]; done) | (simp [wrap64]; done)), (by first | rfl | (simp; done) | (simp [*]; done) | (simp [wrap64]; done)), (by first | rfl | (simp; done) | (simp [*]; done) | (simp [wrap64]; done)), H', ⟨by have := HK1.out; have := HJ12.out; omega⟩, ⟨by (with_reducible repeat (first | apply Kd.V_alloc | apply Kd.V_drewN | apply Kd.V_drew)); exact Kd.V_mono (Kd.V_far (p := ⟨gb346, 3, none⟩) (Kd.V_mono HO_0.out (fun k_ hk => (⟨hk, hk.2.2⟩ : _ ∧ k_ ≠ gb346))) (fun _ hk => hk.2) (.int .i64 (wrap64 (x347003_1 + 1)))) (fun _ hk => ⟨hk.1.1, ⟨hk.1.2.1, hk.1.2.2⟩⟩)⟩, ⟨by (with_reducible repeat (first | refine blk_drewN ?_ _ | refine blk_drew ?_ | refine blk_alloc ?_ _)); refine blk_far ?_ NB344_346.out _; (with_reducible repeat (first | refine blk_drewN ?_ _ | refine blk_drew ?_ | refine blk_alloc ?_ _)); exact BK344.out⟩, ⟨by (with_reducible repeat (first | refine blk_drewN ?_ _ | refine blk_drew ?_ | refine blk_alloc ?_ _)); refine blk_far ?_ NB345_346.out _; (with_reducible repeat (first | refine blk_drewN ?_ _ | refine blk_drew ?_ | refine blk_alloc ?_ _)); exact BK345.out⟩, ⟨by (with_reducible repeat (first | refine blk_drewN ?_ _ | refine blk_drew ?_ | refine blk_alloc ?_ _)); refine blk_put (cs := #[.int .i64 x347000_1, .int .i64 x347001_1, .int .i64 x347002_1, .int .i64 x347003_1]) ?_ 3 _ rfl; (with_reducible repeat (first | refine blk_drewN ?_ _ | refine blk_drew ?_ | refine blk_alloc ?_ _)); exact BK346.out⟩, ⟨by repeat (first | (with_reducible first | exact HB.out | apply below_alloc | apply pw_below_drewN | apply below_drew1 | refine below_set ?_ GE344.out | refine below_set ?_ GE345.out | refine below_set ?_ GE346.out) | exact HB.out)⟩⟩
          ·replace c247 := Bool.eq_false_iff.mpr c247
           subst c247
           have H1 : (if x7_1 = true then (if (rd t331 x8_1) < t336 then (some false) else (if (rd t331 x8_1) > t337 then (some false) else (headgatelaw15_FoldCounts.l0 kj12 t331 ((rd t331 x8_1) == t336) true (wrap64 (x8_1 + 1)) t334 t335 t336 t337 t338 t339 t340 t341 t342 t343 x346000_12 x346001_12 x346002_12 x346003_12 x347000_1 x347001_1 x347002_1 (wrap64 (x347003_1 + 1))))) else (if (rd t331 x8_1) < t336 then (some false) else (if (rd t331 x8_1) > t337 then (some false) else (headgatelaw15_FoldCounts.l0 kj12 t331 ((rd t331 x8_1) == t336) ((rd t331 x8_1) == t337) (wrap64 (x8_1 + 1)) t334 t335 t336 t337 t338 t339 t340 t341 t342 t343 x346000_12 x346001_12 x346002_12 x346003_12 x347000_1 x347001_1 x347002_1 (wrap64 (x347003_1 + 1)))))) = some r := by rw [if_neg (show ¬ (false = true) by decide)] at H; exact H
           clear H
           have H := H1
           clear H1
           by_cases c283 : x7_1 = true
           ·subst c283
            have H1 : (if (rd t331 x8_1) < t336 then (some false) else (if (rd t331 x8_1) > t337 then (some false) else (headgatelaw15_FoldCounts.l0 kj12 t331 ((rd t331 x8_1) == t336) true (wrap64 (x8_1 + 1)) t334 t335 t336 t337 t338 t339 t340 t341 t342 t343 x346000_12 x346001_12 x346002_12 x346003_12 x347000_1 x347001_1 x347002_1 (wrap64 (x347003_1 + 1))))) = some r := by rw [if_pos rfl] at H; exact H
            clear H
            have H := H1
            clear H1
            by_cases c284 : (rd t331 x8_1) < t336
            ·rw [if_pos c284] at H
             have c284b0 : decide ((rd t331 x8_1) < t336) = true := decide_eq_true c284
             clear c284
             obtain rfl := Option.some.inj H
             have hnb285 := NB346_344.out
             have hnc285 := NB344_346.out
             have hnb286 := NB346_345.out
             have hnc286 := NB345_346.out
             have hcz287_0 : wc.cell? ⟨gb346, 0, none⟩ = some (.int .i64 x347000_1) := (blk_cell BK346.out 0).trans rfl
             have hcz287_1 : wc.cell? ⟨gb346, 1, none⟩ = some (.int .i64 x347001_1) := (blk_cell BK346.out 1).trans rfl
             have hcz287_2 : wc.cell? ⟨gb346, 2, none⟩ = some (.int .i64 x347002_1) := (blk_cell BK346.out 2).trans rfl
             have hcz287_3 : wc.cell? ⟨gb346, 3, none⟩ = some (.int .i64 x347003_1) := (blk_cell BK346.out 3).trans rfl
             have hfz287_0 := blk_frozen BK346.out 0
             have hfz287_1 := blk_frozen BK346.out 1
             have hfz287_2 := blk_frozen BK346.out 2
             have hfz287_3 := blk_frozen BK346.out 3
             have hnb288 := NB344_345.out
             have hnc288 := NB345_344.out
             have hcz289_0 : wc.cell? ⟨gb344, 0, none⟩ = some (.int .i64 t334) := (blk_cell BK344.out 0).trans rfl
             have hcz289_1 : wc.cell? ⟨gb344, 1, none⟩ = some (.int .i64 t335) := (blk_cell BK344.out 1).trans rfl
             have hcz289_2 : wc.cell? ⟨gb344, 2, none⟩ = some (.int .i64 t336) := (blk_cell BK344.out 2).trans rfl
             have hcz289_3 : wc.cell? ⟨gb344, 3, none⟩ = some (.int .i64 t337) := (blk_cell BK344.out 3).trans rfl
             have hcz289_4 : wc.cell? ⟨gb344, 4, none⟩ = some (.int .i64 t338) := (blk_cell BK344.out 4).trans rfl
             have hcz289_5 : wc.cell? ⟨gb344, 5, none⟩ = some (.int .i64 t339) := (blk_cell BK344.out 5).trans rfl
             have hcz289_6 : wc.cell? ⟨gb344, 6, none⟩ = some (.int .i64 t340) := (blk_cell BK344.out 6).trans rfl
             have hcz289_7 : wc.cell? ⟨gb344, 7, none⟩ = some (.int .i64 t341) := (blk_cell BK344.out 7).trans rfl
             have hcz289_8 : wc.cell? ⟨gb344, 8, none⟩ = some (.int .i64 t342) := (blk_cell BK344.out 8).trans rfl
             have hcz289_9 : wc.cell? ⟨gb344, 9, none⟩ = some (.int .i64 t343) := (blk_cell BK344.out 9).trans rfl
             have hfz289_0 := blk_frozen BK344.out 0
             have hfz289_1 := blk_frozen BK344.out 1
             have hfz289_2 := blk_frozen BK344.out 2
             have hfz289_3 := blk_frozen BK344.out 3
             have hfz289_4 := blk_frozen BK344.out 4
             have hfz289_5 := blk_frozen BK344.out 5
             have hfz289_6 := blk_frozen BK344.out 6
             have hfz289_7 := blk_frozen BK344.out 7
             have hfz289_8 := blk_frozen BK344.out 8
             have hfz289_9 := blk_frozen BK344.out 9
             go_wp2
             go_ret
             exact ⟨by first | rfl | (simp [errW_none, errW_some] <;> rfl) | (simp [*, errW_none, errW_some] <;> rfl), by repeat (first | (with_reducible first | exact HB.out | apply below_alloc | apply pw_below_drewN | apply below_drew1 | refine below_set ?_ GE344.out | refine below_set ?_ GE345.out | refine below_set ?_ GE346.out) | exact HB.out)⟩
            ·rw [if_neg c284] at H
             have c284b0 : decide ((rd t331 x8_1) < t336) = false := decide_eq_false c284
             clear c284
             by_cases c290 : (rd t331 x8_1) > t337
             ·rw [if_pos c290] at H
              have c290b0 : decide (t337 < (rd t331 x8_1)) = true := decide_eq_true c290
              clear c290
              obtain rfl := Option.some.inj H
              have hnb291 := NB346_344.out
              have hnc291 := NB344_346.out
              have hnb292 := NB346_345.out
              have hnc292 := NB345_346.out
              have hcz293_0 : wc.cell? ⟨gb346, 0, none⟩ = some (.int .i64 x347000_1) := (blk_cell BK346.out 0).trans rfl
              have hcz293_1 : wc.cell? ⟨gb346, 1, none⟩ = some (.int .i64 x347001_1) := (blk_cell BK346.out 1).trans rfl
              have hcz293_2 : wc.cell? ⟨gb346, 2, none⟩ = some (.int .i64 x347002_1) := (blk_cell BK346.out 2).trans rfl
              have hcz293_3 : wc.cell? ⟨gb346, 3, none⟩ = some (.int .i64 x347003_1) := (blk_cell BK346.out 3).trans rfl
              have hfz293_0 := blk_frozen BK346.out 0
              have hfz293_1 := blk_frozen BK346.out 1
              have hfz293_2 := blk_frozen BK346.out 2
              have hfz293_3 := blk_frozen BK346.out 3
              have hnb294 := NB344_345.out
              have hnc294 := NB345_344.out
              have hcz295_0 : wc.cell? ⟨gb344, 0, none⟩ = some (.int .i64 t334) := (blk_cell BK344.out 0).trans rfl
              have hcz295_1 : wc.cell? ⟨gb344, 1, none⟩ = some (.int .i64 t335) := (blk_cell BK344.out 1).trans rfl
              have hcz295_2 : wc.cell? ⟨gb344, 2, none⟩ = some (.int .i64 t336) := (blk_cell BK344.out 2).trans rfl
              have hcz295_3 : wc.cell? ⟨gb344, 3, none⟩ = some (.int .i64 t337) := (blk_cell BK344.out 3).trans rfl
              have hcz295_4 : wc.cell? ⟨gb344, 4, none⟩ = some (.int .i64 t338) := (blk_cell BK344.out 4).trans rfl
              have hcz295_5 : wc.cell? ⟨gb344, 5, none⟩ = some (.int .i64 t339) := (blk_cell BK344.out 5).trans rfl
              have hcz295_6 : wc.cell? ⟨gb344, 6, none⟩ = some (.int .i64 t340) := (blk_cell BK344.out 6).trans rfl
              have hcz295_7 : wc.cell? ⟨gb344, 7, none⟩ = some (.int .i64 t341) := (blk_cell BK344.out 7).trans rfl
              have hcz295_8 : wc.cell? ⟨gb344, 8, none⟩ = some (.int .i64 t342) := (blk_cell BK344.out 8).trans rfl
              have hcz295_9 : wc.cell? ⟨gb344, 9, none⟩ = some (.int .i64 t343) := (blk_cell BK344.out 9).trans rfl
              have hfz295_0 := blk_frozen BK344.out 0
              have hfz295_1 := blk_frozen BK344.out 1
              have hfz295_2 := blk_frozen BK344.out 2
              have hfz295_3 := blk_frozen BK344.out 3
              have hfz295_4 := blk_frozen BK344.out 4
              have hfz295_5 := blk_frozen BK344.out 5
              have hfz295_6 := blk_frozen BK344.out 6
              have hfz295_7 := blk_frozen BK344.out 7
              have hfz295_8 := blk_frozen BK344.out 8
              have hfz295_9 := blk_frozen BK344.out 9
              go_wp2
              go_ret
              exact ⟨by first | rfl | (simp [errW_none, errW_some] <;> rfl) | (simp [*, errW_none, errW_some] <;> rfl), by repeat (first | (with_reducible first | exact HB.out | apply below_alloc | apply pw_below_drewN | apply below_drew1 | refine below_set ?_ GE344.out | refine below_set ?_ GE345.out | refine below_set ?_ GE346.out) | exact HB.out)⟩
             ·rw [if_neg c290] at H
              have c290b0 : decide (t337 < (rd t331 x8_1)) = false := decide_eq_false c290
              clear c290
              have H' := Aside0.mk H
              clear H
              have hnb296 := NB346_344.out
              have hnc296 := NB344_346.out
              have hnb297 := NB346_345.out
              have hnc297 := NB345_346.out
              have hcz298_0 : wc.cell? ⟨gb346, 0, none⟩ = some (.int .i64 x347000_1) := (blk_cell BK346.out 0).trans rfl
              have hcz298_1 : wc.cell? ⟨gb346, 1, none⟩ = some (.int .i64 x347001_1) := (blk_cell BK346.out 1).trans rfl
              have hcz298_2 : wc.cell? ⟨gb346, 2, none⟩ = some (.int .i64 x347002_1) := (blk_cell BK346.out 2).trans rfl
              have hcz298_3 : wc.cell? ⟨gb346, 3, none⟩ = some (.int .i64 x347003_1) := (blk_cell BK346.out 3).trans rfl
              have hfz298_0 := blk_frozen BK346.out 0
              have hfz298_1 := blk_frozen BK346.out 1
              have hfz298_2 := blk_frozen BK346.out 2
              have hfz298_3 := blk_frozen BK346.out 3
              have hnb299 := NB344_345.out
              have hnc299 := NB345_344.out
              have hcz300_0 : wc.cell? ⟨gb344, 0, none⟩ = some (.int .i64 t334) := (blk_cell BK344.out 0).trans rfl
              have hcz300_1 : wc.cell? ⟨gb344, 1, none⟩ = some (.int .i64 t335) := (blk_cell BK344.out 1).trans rfl
              have hcz300_2 : wc.cell? ⟨gb344, 2, none⟩ = some (.int .i64 t336) := (blk_cell BK344.out 2).trans rfl
              have hcz300_3 : wc.cell? ⟨gb344, 3, none⟩ = some (.int .i64 t337) := (blk_cell BK344.out 3).trans rfl
              have hcz300_4 : wc.cell? ⟨gb344, 4, none⟩ = some (.int .i64 t338) := (blk_cell BK344.out 4).trans rfl
              have hcz300_5 : wc.cell? ⟨gb344, 5, none⟩ = some (.int .i64 t339) := (blk_cell BK344.out 5).trans rfl
              have hcz300_6 : wc.cell? ⟨gb344, 6, none⟩ = some (.int .i64 t340) := (blk_cell BK344.out 6).trans rfl
              have hcz300_7 : wc.cell? ⟨gb344, 7, none⟩ = some (.int .i64 t341) := (blk_cell BK344.out 7).trans rfl
              have hcz300_8 : wc.cell? ⟨gb344, 8, none⟩ = some (.int .i64 t342) := (blk_cell BK344.out 8).trans rfl
              have hcz300_9 : wc.cell? ⟨gb344, 9, none⟩ = some (.int .i64 t343) := (blk_cell BK344.out 9).trans rfl
              have hfz300_0 := blk_frozen BK344.out 0
              have hfz300_1 := blk_frozen BK344.out 1
              have hfz300_2 := blk_frozen BK344.out 2
              have hfz300_3 := blk_frozen BK344.out 3
              have hfz300_4 := blk_frozen BK344.out 4
              have hfz300_5 := blk_frozen BK344.out 5
              have hfz300_6 := blk_frozen BK344.out 6
              have hfz300_7 := blk_frozen BK344.out 7
              have hfz300_8 := blk_frozen BK344.out 8
              have hfz300_9 := blk_frozen BK344.out 9
              go_wp2
              go_roundg kj12
              case measure => have := HK1.out; have := HJ12.out; omega
              case rel => exact ⟨(((rd t331 x8_1) == t336)), (true), (wrap64 (x8_1 + 1)), (x346000_12), (x346001_12), (x346002_12), (x346003_12), (x347000_1), (x347001_1), (x347002_1), (wrap64 (x347003_1 + 1)), (by first | rfl | (simp; done) | (simp [*]; done) | (simp [wrap64]; done)), (by first | rfl | (simp; done) | (simp [*]; done) | (simp [wrap64]; done)), (by first | rfl | (simp; done) | (simp [*]; done) | (simp [wrap64]; done)), H', ⟨by have := HK1.out; have := HJ12.out; omega⟩, ⟨by (with_reducible repeat (first | apply Kd.V_alloc | apply Kd.V_drewN | apply Kd.V_drew)); exact Kd.V_mono (Kd.V_far (p := ⟨gb346, 3, none⟩) (Kd.V_mono HO_0.out (fun k_ hk => (⟨hk, hk.2.2⟩ : _ ∧ k_ ≠ gb346))) (fun _ hk => hk.2) (.int .i64 (wrap64 (x347003_1 + 1)))) (fun _ hk => ⟨hk.1.1, ⟨hk.1.2.1, hk.1.2.2⟩⟩)⟩, ⟨by (with_reducible repeat (first | refine blk_drewN ?_ _ | refine blk_drew ?_ | refine blk_alloc ?_ _)); refine blk_far ?_ NB344_346.out _; (with_reducible repeat (first | refine blk_drewN ?_ _ | refine blk_drew ?_ | refine blk_alloc ?_ _)); exact BK344.out⟩, ⟨by (with_reducible repeat (first | refine blk_drewN ?_ _ | refine blk_drew ?_ | refine blk_alloc ?_ _)); refine blk_far ?_ NB345_346.out _; (with_reducible repeat (first | refine blk_drewN ?_ _ | refine blk_drew ?_ | refine blk_alloc ?_ _)); exact BK345.out⟩, ⟨by (with_reducible repeat (first | refine blk_drewN ?_ _ | refine blk_drew ?_ | refine blk_alloc ?_ _)); refine blk_put (cs := #[.int .i64 x347000_1, .int .i64 x347001_1, .int .i64 x347002_1, .int .i64 x347003_1]) ?_ 3 _ rfl; (with_reducible repeat (first | refine blk_drewN ?_ _ | refine blk_drew ?_ | refine blk_alloc ?_ _)); exact BK346.out⟩, ⟨by repeat (first | (with_reducible first | exact HB.out | apply below_alloc | apply pw_below_drewN | apply below_drew1 | refine below_set ?_ GE344.out | refine below_set ?_ GE345.out | refine below_set ?_ GE346.out) | exact HB.out)⟩⟩
           ·replace c283 := Bool.eq_false_iff.mpr c283
            subst c283
            have H1 : (if (rd t331 x8_1) < t336 then (some false) else (if (rd t331 x8_1) > t337 then (some false) else (headgatelaw15_FoldCounts.l0 kj12 t331 ((rd t331 x8_1) == t336) ((rd t331 x8_1) == t337) (wrap64 (x8_1 + 1)) t334 t335 t336 t337 t338 t339 t340 t341 t342 t343 x346000_12 x346001_12 x346002_12 x346003_12 x347000_1 x347001_1 x347002_1 (wrap64 (x347003_1 + 1))))) = some r := by rw [if_neg (show ¬ (false = true) by decide)] at H; exact H
            clear H
            have H := H1
            clear H1
            by_cases c301 : (rd t331 x8_1) < t336
            ·rw [if_pos c301] at H
             have c301b0 : decide ((rd t331 x8_1) < t336) = true := decide_eq_true c301
             clear c301
             obtain rfl := Option.some.inj H
             have hnb302 := NB346_344.out
             have hnc302 := NB344_346.out
             have hnb303 := NB346_345.out
             have hnc303 := NB345_346.out
             have hcz304_0 : wc.cell? ⟨gb346, 0, none⟩ = some (.int .i64 x347000_1) := (blk_cell BK346.out 0).trans rfl
             have hcz304_1 : wc.cell? ⟨gb346, 1, none⟩ = some (.int .i64 x347001_1) := (blk_cell BK346.out 1).trans rfl
             have hcz304_2 : wc.cell? ⟨gb346, 2, none⟩ = some (.int .i64 x347002_1) := (blk_cell BK346.out 2).trans rfl
             have hcz304_3 : wc.cell? ⟨gb346, 3, none⟩ = some (.int .i64 x347003_1) := (blk_cell BK346.out 3).trans rfl
             have hfz304_0 := blk_frozen BK346.out 0
             have hfz304_1 := blk_frozen BK346.out 1
             have hfz304_2 := blk_frozen BK346.out 2
             have hfz304_3 := blk_frozen BK346.out 3
             have hnb305 := NB344_345.out
             have hnc305 := NB345_344.out
             have hcz306_0 : wc.cell? ⟨gb344, 0, none⟩ = some (.int .i64 t334) := (blk_cell BK344.out 0).trans rfl
             have hcz306_1 : wc.cell? ⟨gb344, 1, none⟩ = some (.int .i64 t335) := (blk_cell BK344.out 1).trans rfl
             have hcz306_2 : wc.cell? ⟨gb344, 2, none⟩ = some (.int .i64 t336) := (blk_cell BK344.out 2).trans rfl
             have hcz306_3 : wc.cell? ⟨gb344, 3, none⟩ = some (.int .i64 t337) := (blk_cell BK344.out 3).trans rfl
             have hcz306_4 : wc.cell? ⟨gb344, 4, none⟩ = some (.int .i64 t338) := (blk_cell BK344.out 4).trans rfl
             have hcz306_5 : wc.cell? ⟨gb344, 5, none⟩ = some (.int .i64 t339) := (blk_cell BK344.out 5).trans rfl
             have hcz306_6 : wc.cell? ⟨gb344, 6, none⟩ = some (.int .i64 t340) := (blk_cell BK344.out 6).trans rfl
             have hcz306_7 : wc.cell? ⟨gb344, 7, none⟩ = some (.int .i64 t341) := (blk_cell BK344.out 7).trans rfl
             have hcz306_8 : wc.cell? ⟨gb344, 8, none⟩ = some (.int .i64 t342) := (blk_cell BK344.out 8).trans rfl
             have hcz306_9 : wc.cell? ⟨gb344, 9, none⟩ = some (.int .i64 t343) := (blk_cell BK344.out 9).trans rfl
             have hfz306_0 := blk_frozen BK344.out 0
             have hfz306_1 := blk_frozen BK344.out 1
             have hfz306_2 := blk_frozen BK344.out 2
             have hfz306_3 := blk_frozen BK344.out 3
             have hfz306_4 := blk_frozen BK344.out 4
             have hfz306_5 := blk_frozen BK344.out 5
             have hfz306_6 := blk_frozen BK344.out 6
             have hfz306_7 := blk_frozen BK344.out 7
             have hfz306_8 := blk_frozen BK344.out 8
             have hfz306_9 := blk_frozen BK344.out 9
             go_wp2
             go_ret
             exact ⟨by first | rfl | (simp [errW_none, errW_some] <;> rfl) | (simp [*, errW_none, errW_some] <;> rfl), by repeat (first | (with_reducible first | exact HB.out | apply below_alloc | apply pw_below_drewN | apply below_drew1 | refine below_set ?_ GE344.out | refine below_set ?_ GE345.out | refine below_set ?_ GE346.out) | exact HB.out)⟩
            ·rw [if_neg c301] at H
             have c301b0 : decide ((rd t331 x8_1) < t336) = false := decide_eq_false c301
             clear c301
             by_cases c307 : (rd t331 x8_1) > t337
             ·rw [if_pos c307] at H
              have c307b0 : decide (t337 < (rd t331 x8_1)) = true := decide_eq_true c307
              clear c307
              obtain rfl := Option.some.inj H
              have hnb308 := NB346_344.out
              have hnc308 := NB344_346.out
              have hnb309 := NB346_345.out
              have hnc309 := NB345_346.out
              have hcz310_0 : wc.cell? ⟨gb346, 0, none⟩ = some (.int .i64 x347000_1) := (blk_cell BK346.out 0).trans rfl
              have hcz310_1 : wc.cell? ⟨gb346, 1, none⟩ = some (.int .i64 x347001_1) := (blk_cell BK346.out 1).trans rfl
              have hcz310_2 : wc.cell? ⟨gb346, 2, none⟩ = some (.int .i64 x347002_1) := (blk_cell BK346.out 2).trans rfl
              have hcz310_3 : wc.cell? ⟨gb346, 3, none⟩ = some (.int .i64 x347003_1) := (blk_cell BK346.out 3).trans rfl
              have hfz310_0 := blk_frozen BK346.out 0
              have hfz310_1 := blk_frozen BK346.out 1
              have hfz310_2 := blk_frozen BK346.out 2
              have hfz310_3 := blk_frozen BK346.out 3
              have hnb311 := NB344_345.out
              have hnc311 := NB345_344.out
              have hcz312_0 : wc.cell? ⟨gb344, 0, none⟩ = some (.int .i64 t334) := (blk_cell BK344.out 0).trans rfl
              have hcz312_1 : wc.cell? ⟨gb344, 1, none⟩ = some (.int .i64 t335) := (blk_cell BK344.out 1).trans rfl
              have hcz312_2 : wc.cell? ⟨gb344, 2, none⟩ = some (.int .i64 t336) := (blk_cell BK344.out 2).trans rfl
              have hcz312_3 : wc.cell? ⟨gb344, 3, none⟩ = some (.int .i64 t337) := (blk_cell BK344.out 3).trans rfl
              have hcz312_4 : wc.cell? ⟨gb344, 4, none⟩ = some (.int .i64 t338) := (blk_cell BK344.out 4).trans rfl
              have hcz312_5 : wc.cell? ⟨gb344, 5, none⟩ = some (.int .i64 t339) := (blk_cell BK344.out 5).trans rfl
              have hcz312_6 : wc.cell? ⟨gb344, 6, none⟩ = some (.int .i64 t340) := (blk_cell BK344.out 6).trans rfl
              have hcz312_7 : wc.cell? ⟨gb344, 7, none⟩ = some (.int .i64 t341) := (blk_cell BK344.out 7).trans rfl
              have hcz312_8 : wc.cell? ⟨gb344, 8, none⟩ = some (.int .i64 t342) := (blk_cell BK344.out 8).trans rfl
              have hcz312_9 : wc.cell? ⟨gb344, 9, none⟩ = some (.int .i64 t343) := (blk_cell BK344.out 9).trans rfl
              have hfz312_0 := blk_frozen BK344.out 0
              have hfz312_1 := blk_frozen BK344.out 1
              have hfz312_2 := blk_frozen BK344.out 2
              have hfz312_3 := blk_frozen BK344.out 3
              have hfz312_4 := blk_frozen BK344.out 4
              have hfz312_5 := blk_frozen BK344.out 5
              have hfz312_6 := blk_frozen BK344.out 6
              have hfz312_7 := blk_frozen BK344.out 7
              have hfz312_8 := blk_frozen BK344.out 8
              have hfz312_9 := blk_frozen BK344.out 9
              go_wp2
              go_ret
              exact ⟨by first | rfl | (simp [errW_none, errW_some] <;> rfl) | (simp [*, errW_none, errW_some] <;> rfl), by repeat (first | (with_reducible first | exact HB.out | apply below_alloc | apply pw_below_drewN | apply below_drew1 | refine below_set ?_ GE344.out | refine below_set ?_ GE345.out | refine below_set ?_ GE346.out) | exact HB.out)⟩
             ·rw [if_neg c307] at H
              have c307b0 : decide (t337 < (rd t331 x8_1)) = false := decide_eq_false c307
              clear c307
              have H' := Aside0.mk H
              clear H
              have hnb313 := NB346_344.out
              have hnc313 := NB344_346.out
              have hnb314 := NB346_345.out
              have hnc314 := NB345_346.out
              have hcz315_0 : wc.cell? ⟨gb346, 0, none⟩ = some (.int .i64 x347000_1) := (blk_cell BK346.out 0).trans rfl
              have hcz315_1 : wc.cell? ⟨gb346, 1, none⟩ = some (.int .i64 x347001_1) := (blk_cell BK346.out 1).trans rfl
              have hcz315_2 : wc.cell? ⟨gb346, 2, none⟩ = some (.int .i64 x347002_1) := (blk_cell BK346.out 2).trans rfl
              have hcz315_3 : wc.cell? ⟨gb346, 3, none⟩ = some (.int .i64 x347003_1) := (blk_cell BK346.out 3).trans rfl
              have hfz315_0 := blk_frozen BK346.out 0
              have hfz315_1 := blk_frozen BK346.out 1
              have hfz315_2 := blk_frozen BK346.out 2
              have hfz315_3 := blk_frozen BK346.out 3
              have hnb316 := NB344_345.out
              have hnc316 := NB345_344.out
              have hcz317_0 : wc.cell? ⟨gb344, 0, none⟩ = some (.int .i64 t334) := (blk_cell BK344.out 0).trans rfl
              have hcz317_1 : wc.cell? ⟨gb344, 1, none⟩ = some (.int .i64 t335) := (blk_cell BK344.out 1).trans rfl
              have hcz317_2 : wc.cell? ⟨gb344, 2, none⟩ = some (.int .i64 t336) := (blk_cell BK344.out 2).trans rfl
              have hcz317_3 : wc.cell? ⟨gb344, 3, none⟩ = some (.int .i64 t337) := (blk_cell BK344.out 3).trans rfl
              have hcz317_4 : wc.cell? ⟨gb344, 4, none⟩ = some (.int .i64 t338) := (blk_cell BK344.out 4).trans rfl
              have hcz317_5 : wc.cell? ⟨gb344, 5, none⟩ = some (.int .i64 t339) := (blk_cell BK344.out 5).trans rfl
              have hcz317_6 : wc.cell? ⟨gb344, 6, none⟩ = some (.int .i64 t340) := (blk_cell BK344.out 6).trans rfl
              have hcz317_7 : wc.cell? ⟨gb344, 7, none⟩ = some (.int .i64 t341) := (blk_cell BK344.out 7).trans rfl
              have hcz317_8 : wc.cell? ⟨gb344, 8, none⟩ = some (.int .i64 t342) := (blk_cell BK344.out 8).trans rfl
              have hcz317_9 : wc.cell? ⟨gb344, 9, none⟩ = some (.int .i64 t343) := (blk_cell BK344.out 9).trans rfl
              have hfz317_0 := blk_frozen BK344.out 0
              have hfz317_1 := blk_frozen BK344.out 1
              have hfz317_2 := blk_frozen BK344.out 2
              have hfz317_3 := blk_frozen BK344.out 3
              have hfz317_4 := blk_frozen BK344.out 4
              have hfz317_5 := blk_frozen BK344.out 5
              have hfz317_6 := blk_frozen BK344.out 6
              have hfz317_7 := blk_frozen BK344.out 7
              have hfz317_8 := blk_frozen BK344.out 8
              have hfz317_9 := blk_frozen BK344.out 9
              go_wp2
              go_roundg kj12
              case measure => have := HK1.out; have := HJ12.out; omega
              case rel => exact ⟨(((rd t331 x8_1) == t336)), (((rd t331 x8_1) == t337)), (wrap64 (x8_1 + 1)), (x346000_12), (x346001_12), (x346002_12), (x346003_12), (x347000_1), (x347001_1), (x347002_1), (wrap64 (x347003_1 + 1)), (by first | rfl | (simp; done) | (simp [*]; done) | (simp [wrap64]; done)), (by first | rfl | (simp; done) | (simp [*]; done) | (simp [wrap64]; done)), (by first | rfl | (simp; done) | (simp [*]; done) | (simp [wrap64]; done)), H', ⟨by have := HK1.out; have := HJ12.out; omega⟩, ⟨by (with_reducible repeat (first | apply Kd.V_alloc | apply Kd.V_drewN | apply Kd.V_drew)); exact Kd.V_mono (Kd.V_far (p := ⟨gb346, 3, none⟩) (Kd.V_mono HO_0.out (fun k_ hk => (⟨hk, hk.2.2⟩ : _ ∧ k_ ≠ gb346))) (fun _ hk => hk.2) (.int .i64 (wrap64 (x347003_1 + 1)))) (fun _ hk => ⟨hk.1.1, ⟨hk.1.2.1, hk.1.2.2⟩⟩)⟩, ⟨by (with_reducible repeat (first | refine blk_drewN ?_ _ | refine blk_drew ?_ | refine blk_alloc ?_ _)); refine blk_far ?_ NB344_346.out _; (with_reducible repeat (first | refine blk_drewN ?_ _ | refine blk_drew ?_ | refine blk_alloc ?_ _)); exact BK344.out⟩, ⟨by (with_reducible repeat (first | refine blk_drewN ?_ _ | refine blk_drew ?_ | refine blk_alloc ?_ _)); refine blk_far ?_ NB345_346.out _; (with_reducible repeat (first | refine blk_drewN ?_ _ | refine blk_drew ?_ | refine blk_alloc ?_ _)); exact BK345.out⟩, ⟨by (with_reducible repeat (first | refine blk_drewN ?_ _ | refine blk_drew ?_ | refine blk_alloc ?_ _)); refine blk_put (cs := #[.int .i64 x347000_1, .int .i64 x347001_1, .int .i64 x347002_1, .int .i64 x347003_1]) ?_ 3 _ rfl; (with_reducible repeat (first | refine blk_drewN ?_ _ | refine blk_drew ?_ | refine blk_alloc ?_ _)); exact BK346.out⟩, ⟨by repeat (first | (with_reducible first | exact HB.out | apply below_alloc | apply pw_below_drewN | apply below_drew1 | refine below_set ?_ GE344.out | refine below_set ?_ GE345.out | refine below_set ?_ GE346.out) | exact HB.out)⟩⟩
    ·rw [if_neg c12] at H
     exact absurd H (by simp)
   ·rw [if_neg c11] at H
    have c11b0 : decide (x8_1 < (t331.length : Int)) = false := decide_eq_false c11
    clear c11
    by_cases c318 : (t331.length : Int) = 0
    ·rw [if_pos c318] at H
     have c318b0 : ((t331.length : Int) == 0) = true := beq_iff_eq.mpr c318
     have c318b1 : ((t331.length : Int) != 0) = false := bne_eq_false_iff_eq.mpr c318
     clear c318
     by_cases c319 : (t334 == 0 && (t335 == 0 && (t336 == 0 && (t337 == 0 && ((t338 == 0 && (t339 == 0 && (t340 == 0 && (t341 == 0)))) && (t342 == 0 && (t343 == 0))))))) = true
     ·rw [if_pos c319] at H
      have c319b0 : (t334 == 0 && (t335 == 0 && (t336 == 0 && (t337 == 0 && ((t338 == 0 && (t339 == 0 && (t340 == 0 && (t341 == 0)))) && (t342 == 0 && (t343 == 0))))))) = true := c319
      try (have c319b8 := c319b0; simp only [Bool.and_eq_true, beq_iff_eq] at c319b8; replace c319b8 := eq_true c319b8)
      (try (have c319b1 : decide (t334 = 0 && (t335 == 0 && (t336 == 0 && (t337 == 0 && ((t338 == 0 && (t339 == 0 && (t340 == 0 && (t341 == 0)))) && (t342 == 0 && (t343 == 0))))))) = true := by simpa using c319))
      (try (have c319b2 : (t334 == 0 && (t335 == 0 && (t336 == 0 && (t337 == 0 && ((t338 == 0 && (t339 == 0 && (t340 == 0 && (t341 == 0)))) && (t342 == 0 && (t343 == 0))))))) = true := by simpa using c319))
      clear c319
      replace H := Option.bind_eq_some_iff.mp H
      obtain ⟨t348, A3200, H⟩ := H
      replace H : (some t348) = some r := H
      have A320 := Aside0.mk A3200
      clear A3200
      obtain rfl := Option.some.inj H
      have hnb321 := NB344_345.out
      have hnc321 := NB345_344.out
      have hnb322 := NB344_346.out
      have hnc322 := NB346_344.out
      have hcz323_0 : wr.cell? ⟨gb344, 0, none⟩ = some (.int .i64 t334) := (blk_cell BK344.out 0).trans rfl
      have hcz323_1 : wr.cell? ⟨gb344, 1, none⟩ = some (.int .i64 t335) := (blk_cell BK344.out 1).trans rfl
      have hcz323_2 : wr.cell? ⟨gb344, 2, none⟩ = some (.int .i64 t336) := (blk_cell BK344.out 2).trans rfl
      have hcz323_3 : wr.cell? ⟨gb344, 3, none⟩ = some (.int .i64 t337) := (blk_cell BK344.out 3).trans rfl
      have hcz323_4 : wr.cell? ⟨gb344, 4, none⟩ = some (.int .i64 t338) := (blk_cell BK344.out 4).trans rfl
      have hcz323_5 : wr.cell? ⟨gb344, 5, none⟩ = some (.int .i64 t339) := (blk_cell BK344.out 5).trans rfl
      have hcz323_6 : wr.cell? ⟨gb344, 6, none⟩ = some (.int .i64 t340) := (blk_cell BK344.out 6).trans rfl
      have hcz323_7 : wr.cell? ⟨gb344, 7, none⟩ = some (.int .i64 t341) := (blk_cell BK344.out 7).trans rfl
      have hcz323_8 : wr.cell? ⟨gb344, 8, none⟩ = some (.int .i64 t342) := (blk_cell BK344.out 8).trans rfl
      have hcz323_9 : wr.cell? ⟨gb344, 9, none⟩ = some (.int .i64 t343) := (blk_cell BK344.out 9).trans rfl
      have hfz323_0 := blk_frozen BK344.out 0
      have hfz323_1 := blk_frozen BK344.out 1
      have hfz323_2 := blk_frozen BK344.out 2
      have hfz323_3 := blk_frozen BK344.out 3
      have hfz323_4 := blk_frozen BK344.out 4
      have hfz323_5 := blk_frozen BK344.out 5
      have hfz323_6 := blk_frozen BK344.out 6
      have hfz323_7 := blk_frozen BK344.out 7
      have hfz323_8 := blk_frozen BK344.out 8
      have hfz323_9 := blk_frozen BK344.out 9
      go_wp2_with (first | (go_at_call 14; (with_reducible refine (headgatelaw15_awake.calls k1  t348 _ A320.out).mono ?_); rintro e w324 ⟨rfl, hb⟩; have n0_ := Aside0.mk (Kd.V_below (by (with_reducible repeat (first | apply Kd.V_alloc | apply Kd.V_drewN | apply Kd.V_drew)); exact HO_0.out) hb); have n1_ := Aside0.mk (blk_below (g := gb344) (o := .cells #[.int .i64 t334, .int .i64 t335, .int .i64 t336, .int .i64 t337, .int .i64 t338, .int .i64 t339, .int .i64 t340, .int .i64 t341, .int .i64 t342, .int .i64 t343] 24 (0, 0)) (by (with_reducible repeat (first | refine blk_drewN ?_ _ | refine blk_drew ?_ | refine blk_alloc ?_ _)); exact BK344.out) hb); have n2_ := Aside0.mk (blk_below (g := gb345) (o := .cells #[.int .i64 x346000_1, .int .i64 x346001_1, .int .i64 x346002_1, .int .i64 x346003_1] 22 (0, 0)) (by (with_reducible repeat (first | refine blk_drewN ?_ _ | refine blk_drew ?_ | refine blk_alloc ?_ _)); exact BK345.out) hb); have n3_ := Aside0.mk (blk_below (g := gb346) (o := .cells #[.int .i64 x347000_1, .int .i64 x347001_1, .int .i64 x347002_1, .int .i64 x347003_1] 22 (0, 0)) (by (with_reducible repeat (first | refine blk_drewN ?_ _ | refine blk_drew ?_ | refine blk_alloc ?_ _)); exact BK346.out) hb); have n4_ := Aside0.mk (below_step (by repeat (first | (with_reducible first | exact HB.out | apply below_alloc | apply pw_below_drewN | apply below_drew1 | refine below_set ?_ GE344.out | refine below_set ?_ GE345.out | refine below_set ?_ GE346.out) | exact HB.out)) hb); clear HO_0; clear BK344; clear BK345; clear BK346; clear HB; have HO_0 := n0_; have BK344 := n1_; have BK345 := n2_; have BK346 := n3_; have HB := n4_; clear n0_ n1_ n2_ n3_ n4_; (try clear hb); (try clear hb2); (try clear hk); (try clear hi)))
      go_ret
      exact ⟨by first | rfl | (simp [errW_none, errW_some] <;> rfl) | (simp [*, errW_none, errW_some] <;> rfl), by repeat (first | (with_reducible first | exact HB.out | apply below_alloc | apply pw_below_drewN | apply below_drew1 | refine below_set ?_ GE344.out | refine below_set ?_ GE345.out | refine below_set ?_ GE346.out) | exact HB.out)⟩
     ·rw [if_neg c319] at H
      have c319b0 : (t334 == 0 && (t335 == 0 && (t336 == 0 && (t337 == 0 && ((t338 == 0 && (t339 == 0 && (t340 == 0 && (t341 == 0)))) && (t342 == 0 && (t343 == 0))))))) = false := by simpa using c319
      try (have c319b8 := Bool.eq_false_iff.mp c319b0; simp only [ne_eq, Bool.and_eq_true, beq_iff_eq] at c319b8; replace c319b8 := eq_false c319b8)
      (try (have c319b1 : decide (t334 = 0 && (t335 == 0 && (t336 == 0 && (t337 == 0 && ((t338 == 0 && (t339 == 0 && (t340 == 0 && (t341 == 0)))) && (t342 == 0 && (t343 == 0))))))) = false := by simpa using c319))
      (try (have c319b2 : (t334 == 0 && (t335 == 0 && (t336 == 0 && (t337 == 0 && ((t338 == 0 && (t339 == 0 && (t340 == 0 && (t341 == 0)))) && (t342 == 0 && (t343 == 0))))))) = false := by simpa using c319))
      (try (have c319b3 : ¬ (t334 = 0 && (t335 == 0 && (t336 == 0 && (t337 == 0 && ((t338 == 0 && (t339 == 0 && (t340 == 0 && (t341 == 0)))) && (t342 == 0 && (t343 == 0))))))) := by simpa using c319))
      clear c319
      obtain rfl := Option.some.inj H
      have hnb325 := NB344_345.out
      have hnc325 := NB345_344.out
      have hnb326 := NB344_346.out
      have hnc326 := NB346_344.out
      have hcz327_0 : wr.cell? ⟨gb344, 0, none⟩ = some (.int .i64 t334) := (blk_cell BK344.out 0).trans rfl
      have hcz327_1 : wr.cell? ⟨gb344, 1, none⟩ = some (.int .i64 t335) := (blk_cell BK344.out 1).trans rfl
      have hcz327_2 : wr.cell? ⟨gb344, 2, none⟩ = some (.int .i64 t336) := (blk_cell BK344.out 2).trans rfl
      have hcz327_3 : wr.cell? ⟨gb344, 3, none⟩ = some (.int .i64 t337) := (blk_cell BK344.out 3).trans rfl
      have hcz327_4 : wr.cell? ⟨gb344, 4, none⟩ = some (.int .i64 t338) := (blk_cell BK344.out 4).trans rfl
      have hcz327_5 : wr.cell? ⟨gb344, 5, none⟩ = some (.int .i64 t339) := (blk_cell BK344.out 5).trans rfl
      have hcz327_6 : wr.cell? ⟨gb344, 6, none⟩ = some (.int .i64 t340) := (blk_cell BK344.out 6).trans rfl
      have hcz327_7 : wr.cell? ⟨gb344, 7, none⟩ = some (.int .i64 t341) := (blk_cell BK344.out 7).trans rfl
      have hcz327_8 : wr.cell? ⟨gb344, 8, none⟩ = some (.int .i64 t342) := (blk_cell BK344.out 8).trans rfl
      have hcz327_9 : wr.cell? ⟨gb344, 9, none⟩ = some (.int .i64 t343) := (blk_cell BK344.out 9).trans rfl
      have hfz327_0 := blk_frozen BK344.out 0
      have hfz327_1 := blk_frozen BK344.out 1
      have hfz327_2 := blk_frozen BK344.out 2
      have hfz327_3 := blk_frozen BK344.out 3
      have hfz327_4 := blk_frozen BK344.out 4
      have hfz327_5 := blk_frozen BK344.out 5
      have hfz327_6 := blk_frozen BK344.out 6
      have hfz327_7 := blk_frozen BK344.out 7
      have hfz327_8 := blk_frozen BK344.out 8
      have hfz327_9 := blk_frozen BK344.out 9
      go_wp2
      go_ret
      exact ⟨by first | rfl | (simp [errW_none, errW_some] <;> rfl) | (simp [*, errW_none, errW_some] <;> rfl), by repeat (first | (with_reducible first | exact HB.out | apply below_alloc | apply pw_below_drewN | apply below_drew1 | refine below_set ?_ GE344.out | refine below_set ?_ GE345.out | refine below_set ?_ GE346.out) | exact HB.out)⟩
    ·rw [if_neg c318] at H
     have c318b0 : ((t331.length : Int) == 0) = false := beq_eq_false_iff_ne.mpr c318
     have c318b1 : ((t331.length : Int) != 0) = true := bne_iff_ne.mpr c318
     have c318b2 : ¬ (t331 = []) := fun h_ => c318 (by rw [h_]; rfl)
     by_cases c328 : t334 = (t331.length : Int)
     ·rw [if_pos c328] at H
      have c328b0 : (t334 == (t331.length : Int)) = true := beq_iff_eq.mpr c328
      have c328b1 : (t334 != (t331.length : Int)) = false := bne_eq_false_iff_eq.mpr c328
      clear c328
      by_cases c329 : (t338 == x347000_1 && (t339 == x347001_1 && (t340 == x347002_1 && (t341 == x347003_1)))) = true
      ·rw [if_pos c329] at H
       have c329b0 : (t338 == x347000_1 && (t339 == x347001_1 && (t340 == x347002_1 && (t341 == x347003_1)))) = true := c329
       try (have c329b8 := c329b0; simp only [Bool.and_eq_true, beq_iff_eq] at c329b8; replace c329b8 := eq_true c329b8)
       (try (have c329b1 : decide (t338 = x347000_1 && (t339 == x347001_1 && (t340 == x347002_1 && (t341 == x347003_1)))) = true := by simpa using c329))
       (try (have c329b2 : (t338 == x347000_1 && (t339 == x347001_1 && (t340 == x347002_1 && (t341 == x347003_1)))) = true := by simpa using c329))
       clear c329
       by_cases c330 : x6_1 = true
       ·subst c330
        have H1 : (if x7_1 = true then (if t342 = (wrap64 (x346000_1 - x346002_1)) then (if t343 = (wrap64 (x346001_1 - x346003_1)) then ((headgatelaw15_awake.f k1).bind fun t349 => (some t349)) else (some false)) else (some false)) else (some false)) = some r := by rw [if_pos rfl] at H; exact H
        clear H
        have H := H1
        clear H1
        by_cases c331 : x7_1 = true
        ·subst c331
         have H1 : (if t342 = (wrap64 (x346000_1 - x346002_1)) then (if t343 = (wrap64 (x346001_1 - x346003_1)) then ((headgatelaw15_awake.f k1).bind fun t349 => (some t349)) else (some false)) else (some false)) = some r := by rw [if_pos rfl] at H; exact H
         clear H
         have H := H1
         clear H1
         by_cases c332 : t342 = (wrap64 (x346000_1 - x346002_1))
         ·rw [if_pos c332] at H
          have c332b0 : (t342 == (wrap64 (x346000_1 - x346002_1))) = true := beq_iff_eq.mpr c332
          have c332b1 : (t342 != (wrap64 (x346000_1 - x346002_1))) = false := bne_eq_false_iff_eq.mpr c332
          clear c332
          by_cases c333 : t343 = (wrap64 (x346001_1 - x346003_1))
          ·rw [if_pos c333] at H
           have c333b0 : (t343 == (wrap64 (x346001_1 - x346003_1))) = true := beq_iff_eq.mpr c333
           have c333b1 : (t343 != (wrap64 (x346001_1 - x346003_1))) = false := bne_eq_false_iff_eq.mpr c333
           clear c333
           replace H := Option.bind_eq_some_iff.mp H
           obtain ⟨t349, A3340, H⟩ := H
           replace H : (some t349) = some r := H
           have A334 := Aside0.mk A3340
           clear A3340
           obtain rfl := Option.some.inj H
           have hnb335 := NB344_345.out
           have hnc335 := NB345_344.out
           have hnb336 := NB344_346.out
           have hnc336 := NB346_344.out
           have hcz337_0 : wr.cell? ⟨gb344, 0, none⟩ = some (.int .i64 t334) := (blk_cell BK344.out 0).trans rfl
           have hcz337_1 : wr.cell? ⟨gb344, 1, none⟩ = some (.int .i64 t335) := (blk_cell BK344.out 1).trans rfl
           have hcz337_2 : wr.cell? ⟨gb344, 2, none⟩ = some (.int .i64 t336) := (blk_cell BK344.out 2).trans rfl
           have hcz337_3 : wr.cell? ⟨gb344, 3, none⟩ = some (.int .i64 t337) := (blk_cell BK344.out 3).trans rfl
           have hcz337_4 : wr.cell? ⟨gb344, 4, none⟩ = some (.int .i64 t338) := (blk_cell BK344.out 4).trans rfl
           have hcz337_5 : wr.cell? ⟨gb344, 5, none⟩ = some (.int .i64 t339) := (blk_cell BK344.out 5).trans rfl
           have hcz337_6 : wr.cell? ⟨gb344, 6, none⟩ = some (.int .i64 t340) := (blk_cell BK344.out 6).trans rfl
           have hcz337_7 : wr.cell? ⟨gb344, 7, none⟩ = some (.int .i64 t341) := (blk_cell BK344.out 7).trans rfl
           have hcz337_8 : wr.cell? ⟨gb344, 8, none⟩ = some (.int .i64 t342) := (blk_cell BK344.out 8).trans rfl
           have hcz337_9 : wr.cell? ⟨gb344, 9, none⟩ = some (.int .i64 t343) := (blk_cell BK344.out 9).trans rfl
           have hfz337_0 := blk_frozen BK344.out 0
           have hfz337_1 := blk_frozen BK344.out 1
           have hfz337_2 := blk_frozen BK344.out 2
           have hfz337_3 := blk_frozen BK344.out 3
           have hfz337_4 := blk_frozen BK344.out 4
           have hfz337_5 := blk_frozen BK344.out 5
           have hfz337_6 := blk_frozen BK344.out 6
           have hfz337_7 := blk_frozen BK344.out 7
           have hfz337_8 := blk_frozen BK344.out 8
           have hfz337_9 := blk_frozen BK344.out 9
           have hnb338 := NB346_345.out
           have hnc338 := NB345_346.out
           have hcz339_0 : wr.cell? ⟨gb346, 0, none⟩ = some (.int .i64 x347000_1) := (blk_cell BK346.out 0).trans rfl
           have hcz339_1 : wr.cell? ⟨gb346, 1, none⟩ = some (.int .i64 x347001_1) := (blk_cell BK346.out 1).trans rfl
           have hcz339_2 : wr.cell? ⟨gb346, 2, none⟩ = some (.int .i64 x347002_1) := (blk_cell BK346.out 2).trans rfl
           have hcz339_3 : wr.cell? ⟨gb346, 3, none⟩ = some (.int .i64 x347003_1) := (blk_cell BK346.out 3).trans rfl
           have hfz339_0 := blk_frozen BK346.out 0
           have hfz339_1 := blk_frozen BK346.out 1
           have hfz339_2 := blk_frozen BK346.out 2
           have hfz339_3 := blk_frozen BK346.out 3
           have hcz340_0 : wr.cell? ⟨gb345, 0, none⟩ = some (.int .i64 x346000_1) := (blk_cell BK345.out 0).trans rfl
           have hcz340_1 : wr.cell? ⟨gb345, 1, none⟩ = some (.int .i64 x346001_1) := (blk_cell BK345.out 1).trans rfl
           have hcz340_2 : wr.cell? ⟨gb345, 2, none⟩ = some (.int .i64 x346002_1) := (blk_cell BK345.out 2).trans rfl
           have hcz340_3 : wr.cell? ⟨gb345, 3, none⟩ = some (.int .i64 x346003_1) := (blk_cell BK345.out 3).trans rfl
           have hfz340_0 := blk_frozen BK345.out 0
           have hfz340_1 := blk_frozen BK345.out 1
           have hfz340_2 := blk_frozen BK345.out 2
           have hfz340_3 := blk_frozen BK345.out 3
           go_wp2_with (first | (go_at_call 14; (with_reducible refine (headgatelaw15_awake.calls k1  t349 _ A334.out).mono ?_); rintro e w341 ⟨rfl, hb⟩; have n0_ := Aside0.mk (Kd.V_below (by (with_reducible repeat (first | apply Kd.V_alloc | apply Kd.V_drewN | apply Kd.V_drew)); exact HO_0.out) hb); have n1_ := Aside0.mk (blk_below (g := gb344) (o := .cells #[.int .i64 t334, .int .i64 t335, .int .i64 t336, .int .i64 t337, .int .i64 t338, .int .i64 t339, .int .i64 t340, .int .i64 t341, .int .i64 t342, .int .i64 t343] 24 (0, 0)) (by (with_reducible repeat (first | refine blk_drewN ?_ _ | refine blk_drew ?_ | refine blk_alloc ?_ _)); exact BK344.out) hb); have n2_ := Aside0.mk (blk_below (g := gb345) (o := .cells #[.int .i64 x346000_1, .int .i64 x346001_1, .int .i64 x346002_1, .int .i64 x346003_1] 22 (0, 0)) (by (with_reducible repeat (first | refine blk_drewN ?_ _ | refine blk_drew ?_ | refine blk_alloc ?_ _)); exact BK345.out) hb); have n3_ := Aside0.mk (blk_below (g := gb346) (o := .cells #[.int .i64 x347000_1, .int .i64 x347001_1, .int .i64 x347002_1, .int .i64 x347003_1] 22 (0, 0)) (by (with_reducible repeat (first | refine blk_drewN ?_ _ | refine blk_drew ?_ | refine blk_alloc ?_ _)); exact BK346.out) hb); have n4_ := Aside0.mk (below_step (by repeat (first | (with_reducible first | exact HB.out | apply below_alloc | apply pw_below_drewN | apply below_drew1 | refine below_set ?_ GE344.out | refine below_set ?_ GE345.out | refine below_set ?_ GE346.out) | exact HB.out)) hb); clear HO_0; clear BK344; clear BK345; clear BK346; clear HB; have HO_0 := n0_; have BK344 := n1_; have BK345 := n2_; have BK346 := n3_; have HB := n4_; clear n0_ n1_ n2_ n3_ n4_; (try clear hb); (try clear hb2); (try clear hk); (try clear hi)))
           go_ret
           exact ⟨by first | rfl | (simp [errW_none, errW_some] <;> rfl) | (simp [*, errW_none, errW_some] <;> rfl), by repeat (first | (with_reducible first | exact HB.out | apply below_alloc | apply pw_below_drewN | apply below_drew1 | refine below_set ?_ GE344.out | refine below_set ?_ GE345.out | refine below_set ?_ GE346.out) | exact HB.out)⟩
          ·rw [if_neg c333] at H
           have c333b0 : (t343 == (wrap64 (x346001_1 - x346003_1))) = false := beq_eq_false_iff_ne.mpr c333
           have c333b1 : (t343 != (wrap64 (x346001_1 - x346003_1))) = true := bne_iff_ne.mpr c333
           obtain rfl := Option.some.inj H
           have hnb342 := NB344_345.out
           have hnc342 := NB345_344.out
           have hnb343 := NB344_346.out
           have hnc343 := NB346_344.out
           have hcz344_0 : wr.cell? ⟨gb344, 0, none⟩ = some (.int .i64 t334) := (blk_cell BK344.out 0).trans rfl
           have hcz344_1 : wr.cell? ⟨gb344, 1, none⟩ = some (.int .i64 t335) := (blk_cell BK344.out 1).trans rfl
           have hcz344_2 : wr.cell? ⟨gb344, 2, none⟩ = some (.int .i64 t336) := (blk_cell BK344.out 2).trans rfl
           have hcz344_3 : wr.cell? ⟨gb344, 3, none⟩ = some (.int .i64 t337) := (blk_cell BK344.out 3).trans rfl
           have hcz344_4 : wr.cell? ⟨gb344, 4, none⟩ = some (.int .i64 t338) := (blk_cell BK344.out 4).trans rfl
           have hcz344_5 : wr.cell? ⟨gb344, 5, none⟩ = some (.int .i64 t339) := (blk_cell BK344.out 5).trans rfl
           have hcz344_6 : wr.cell? ⟨gb344, 6, none⟩ = some (.int .i64 t340) := (blk_cell BK344.out 6).trans rfl
           have hcz344_7 : wr.cell? ⟨gb344, 7, none⟩ = some (.int .i64 t341) := (blk_cell BK344.out 7).trans rfl
           have hcz344_8 : wr.cell? ⟨gb344, 8, none⟩ = some (.int .i64 t342) := (blk_cell BK344.out 8).trans rfl
           have hcz344_9 : wr.cell? ⟨gb344, 9, none⟩ = some (.int .i64 t343) := (blk_cell BK344.out 9).trans rfl
           have hfz344_0 := blk_frozen BK344.out 0
           have hfz344_1 := blk_frozen BK344.out 1
           have hfz344_2 := blk_frozen BK344.out 2
           have hfz344_3 := blk_frozen BK344.out 3
           have hfz344_4 := blk_frozen BK344.out 4
           have hfz344_5 := blk_frozen BK344.out 5
           have hfz344_6 := blk_frozen BK344.out 6
           have hfz344_7 := blk_frozen BK344.out 7
           have hfz344_8 := blk_frozen BK344.out 8
           have hfz344_9 := blk_frozen BK344.out 9
           have hnb345 := NB346_345.out
           have hnc345 := NB345_346.out
           have hcz346_0 : wr.cell? ⟨gb346, 0, none⟩ = some (.int .i64 x347000_1) := (blk_cell BK346.out 0).trans rfl
           have hcz346_1 : wr.cell? ⟨gb346, 1, none⟩ = some (.int .i64 x347001_1) := (blk_cell BK346.out 1).trans rfl
           have hcz346_2 : wr.cell? ⟨gb346, 2, none⟩ = some (.int .i64 x347002_1) := (blk_cell BK346.out 2).trans rfl
           have hcz346_3 : wr.cell? ⟨gb346, 3, none⟩ = some (.int .i64 x347003_1) := (blk_cell BK346.out 3).trans rfl
           have hfz346_0 := blk_frozen BK346.out 0
           have hfz346_1 := blk_frozen BK346.out 1
           have hfz346_2 := blk_frozen BK346.out 2
           have hfz346_3 := blk_frozen BK346.out 3
           have hcz347_0 : wr.cell? ⟨gb345, 0, none⟩ = some (.int .i64 x346000_1) := (blk_cell BK345.out 0).trans rfl
           have hcz347_1 : wr.cell? ⟨gb345, 1, none⟩ = some (.int .i64 x346001_1) := (blk_cell BK345.out 1).trans rfl
           have hcz347_2 : wr.cell? ⟨gb345, 2, none⟩ = some (.int .i64 x346002_1) := (blk_cell BK345.out 2).trans rfl
           have hcz347_3 : wr.cell? ⟨gb345, 3, none⟩ = some (.int .i64 x346003_1) := (blk_cell BK345.out 3).trans rfl
           have hfz347_0 := blk_frozen BK345.out 0
           have hfz347_1 := blk_frozen BK345.out 1
           have hfz347_2 := blk_frozen BK345.out 2
           have hfz347_3 := blk_frozen BK345.out 3
           go_wp2
           go_ret
           exact ⟨by first | rfl | (simp [errW_none, errW_some] <;> rfl) | (simp [*, errW_none, errW_some] <;> rfl), by repeat (first | (with_reducible first | exact HB.out | apply below_alloc | apply pw_below_drewN | apply below_drew1 | refine below_set ?_ GE344.out | refine below_set ?_ GE345.out | refine below_set ?_ GE346.out) | exact HB.out)⟩
         ·rw [if_neg c332] at H
          have c332b0 : (t342 == (wrap64 (x346000_1 - x346002_1))) = false := beq_eq_false_iff_ne.mpr c332
          have c332b1 : (t342 != (wrap64 (x346000_1 - x346002_1))) = true := bne_iff_ne.mpr c332
          obtain rfl := Option.some.inj H
          have hnb348 := NB344_345.out
          have hnc348 := NB345_344.out
          have hnb349 := NB344_346.out
          have hnc349 := NB346_344.out
          have hcz350_0 : wr.cell? ⟨gb344, 0, none⟩ = some (.int .i64 t334) := (blk_cell BK344.out 0).trans rfl
          have hcz350_1 : wr.cell? ⟨gb344, 1, none⟩ = some (.int .i64 t335) := (blk_cell BK344.out 1).trans rfl
          have hcz350_2 : wr.cell? ⟨gb344, 2, none⟩ = some (.int .i64 t336) := (blk_cell BK344.out 2).trans rfl
          have hcz350_3 : wr.cell? ⟨gb344, 3, none⟩ = some (.int .i64 t337) := (blk_cell BK344.out 3).trans rfl
          have hcz350_4 : wr.cell? ⟨gb344, 4, none⟩ = some (.int .i64 t338) := (blk_cell BK344.out 4).trans rfl
          have hcz350_5 : wr.cell? ⟨gb344, 5, none⟩ = some (.int .i64 t339) := (blk_cell BK344.out 5).trans rfl
          have hcz350_6 : wr.cell? ⟨gb344, 6, none⟩ = some (.int .i64 t340) := (blk_cell BK344.out 6).trans rfl
          have hcz350_7 : wr.cell? ⟨gb344, 7, none⟩ = some (.int .i64 t341) := (blk_cell BK344.out 7).trans rfl
          have hcz350_8 : wr.cell? ⟨gb344, 8, none⟩ = some (.int .i64 t342) := (blk_cell BK344.out 8).trans rfl
          have hcz350_9 : wr.cell? ⟨gb344, 9, none⟩ = some (.int .i64 t343) := (blk_cell BK344.out 9).trans rfl
          have hfz350_0 := blk_frozen BK344.out 0
          have hfz350_1 := blk_frozen BK344.out 1
          have hfz350_2 := blk_frozen BK344.out 2
          have hfz350_3 := blk_frozen BK344.out 3
          have hfz350_4 := blk_frozen BK344.out 4
          have hfz350_5 := blk_frozen BK344.out 5
          have hfz350_6 := blk_frozen BK344.out 6
          have hfz350_7 := blk_frozen BK344.out 7
          have hfz350_8 := blk_frozen BK344.out 8
          have hfz350_9 := blk_frozen BK344.out 9
          have hnb351 := NB346_345.out
          have hnc351 := NB345_346.out
          have hcz352_0 : wr.cell? ⟨gb346, 0, none⟩ = some (.int .i64 x347000_1) := (blk_cell BK346.out 0).trans rfl
          have hcz352_1 : wr.cell? ⟨gb346, 1, none⟩ = some (.int .i64 x347001_1) := (blk_cell BK346.out 1).trans rfl
          have hcz352_2 : wr.cell? ⟨gb346, 2, none⟩ = some (.int .i64 x347002_1) := (blk_cell BK346.out 2).trans rfl
          have hcz352_3 : wr.cell? ⟨gb346, 3, none⟩ = some (.int .i64 x347003_1) := (blk_cell BK346.out 3).trans rfl
          have hfz352_0 := blk_frozen BK346.out 0
          have hfz352_1 := blk_frozen BK346.out 1
          have hfz352_2 := blk_frozen BK346.out 2
          have hfz352_3 := blk_frozen BK346.out 3
          have hcz353_0 : wr.cell? ⟨gb345, 0, none⟩ = some (.int .i64 x346000_1) := (blk_cell BK345.out 0).trans rfl
          have hcz353_1 : wr.cell? ⟨gb345, 1, none⟩ = some (.int .i64 x346001_1) := (blk_cell BK345.out 1).trans rfl
          have hcz353_2 : wr.cell? ⟨gb345, 2, none⟩ = some (.int .i64 x346002_1) := (blk_cell BK345.out 2).trans rfl
          have hcz353_3 : wr.cell? ⟨gb345, 3, none⟩ = some (.int .i64 x346003_1) := (blk_cell BK345.out 3).trans rfl
          have hfz353_0 := blk_frozen BK345.out 0
          have hfz353_1 := blk_frozen BK345.out 1
          have hfz353_2 := blk_frozen BK345.out 2
          have hfz353_3 := blk_frozen BK345.out 3
          go_wp2
          go_ret
          exact ⟨by first | rfl | (simp [errW_none, errW_some] <;> rfl) | (simp [*, errW_none, errW_some] <;> rfl), by repeat (first | (with_reducible first | exact HB.out | apply below_alloc | apply pw_below_drewN | apply below_drew1 | refine below_set ?_ GE344.out | refine below_set ?_ GE345.out | refine below_set ?_ GE346.out) | exact HB.out)⟩
        ·replace c331 := Bool.eq_false_iff.mpr c331
         subst c331
         have H1 : (some false) = some r := by rw [if_neg (show ¬ (false = true) by decide)] at H; exact H
         clear H
         have H := H1
         clear H1
         obtain rfl := Option.some.inj H
         have hnb354 := NB344_345.out
         have hnc354 := NB345_344.out
         have hnb355 := NB344_346.out
         have hnc355 := NB346_344.out
         have hcz356_0 : wr.cell? ⟨gb344, 0, none⟩ = some (.int .i64 t334) := (blk_cell BK344.out 0).trans rfl
         have hcz356_1 : wr.cell? ⟨gb344, 1, none⟩ = some (.int .i64 t335) := (blk_cell BK344.out 1).trans rfl
         have hcz356_2 : wr.cell? ⟨gb344, 2, none⟩ = some (.int .i64 t336) := (blk_cell BK344.out 2).trans rfl
         have hcz356_3 : wr.cell? ⟨gb344, 3, none⟩ = some (.int .i64 t337) := (blk_cell BK344.out 3).trans rfl
         have hcz356_4 : wr.cell? ⟨gb344, 4, none⟩ = some (.int .i64 t338) := (blk_cell BK344.out 4).trans rfl
         have hcz356_5 : wr.cell? ⟨gb344, 5, none⟩ = some (.int .i64 t339) := (blk_cell BK344.out 5).trans rfl
         have hcz356_6 : wr.cell? ⟨gb344, 6, none⟩ = some (.int .i64 t340) := (blk_cell BK344.out 6).trans rfl
         have hcz356_7 : wr.cell? ⟨gb344, 7, none⟩ = some (.int .i64 t341) := (blk_cell BK344.out 7).trans rfl
         have hcz356_8 : wr.cell? ⟨gb344, 8, none⟩ = some (.int .i64 t342) := (blk_cell BK344.out 8).trans rfl
         have hcz356_9 : wr.cell? ⟨gb344, 9, none⟩ = some (.int .i64 t343) := (blk_cell BK344.out 9).trans rfl
         have hfz356_0 := blk_frozen BK344.out 0
         have hfz356_1 := blk_frozen BK344.out 1
         have hfz356_2 := blk_frozen BK344.out 2
         have hfz356_3 := blk_frozen BK344.out 3
         have hfz356_4 := blk_frozen BK344.out 4
         have hfz356_5 := blk_frozen BK344.out 5
         have hfz356_6 := blk_frozen BK344.out 6
         have hfz356_7 := blk_frozen BK344.out 7
         have hfz356_8 := blk_frozen BK344.out 8
         have hfz356_9 := blk_frozen BK344.out 9
         have hnb357 := NB346_345.out
         have hnc357 := NB345_346.out
         have hcz358_0 : wr.cell? ⟨gb346, 0, none⟩ = some (.int .i64 x347000_1) := (blk_cell BK346.out 0).trans rfl
         have hcz358_1 : wr.cell? ⟨gb346, 1, none⟩ = some (.int .i64 x347001_1) := (blk_cell BK346.out 1).trans rfl
         have hcz358_2 : wr.cell? ⟨gb346, 2, none⟩ = some (.int .i64 x347002_1) := (blk_cell BK346.out 2).trans rfl
         have hcz358_3 : wr.cell? ⟨gb346, 3, none⟩ = some (.int .i64 x347003_1) := (blk_cell BK346.out 3).trans rfl
         have hfz358_0 := blk_frozen BK346.out 0
         have hfz358_1 := blk_frozen BK346.out 1
         have hfz358_2 := blk_frozen BK346.out 2
         have hfz358_3 := blk_frozen BK346.out 3
         go_wp2
         go_ret
         exact ⟨by first | rfl | (simp [errW_none, errW_some] <;> rfl) | (simp [*, errW_none, errW_some] <;> rfl), by repeat (first | (with_reducible first | exact HB.out | apply below_alloc | apply pw_below_drewN | apply below_drew1 | refine below_set ?_ GE344.out | refine below_set ?_ GE345.out | refine below_set ?_ GE346.out) | exact HB.out)⟩
       ·replace c330 := Bool.eq_false_iff.mpr c330
        subst c330
        have H1 : (some false) = some r := by rw [if_neg (show ¬ (false = true) by decide)] at H; exact H
        clear H
        have H := H1
        clear H1
        obtain rfl := Option.some.inj H
        have hnb359 := NB344_345.out
        have hnc359 := NB345_344.out
        have hnb360 := NB344_346.out
        have hnc360 := NB346_344.out
        have hcz361_0 : wr.cell? ⟨gb344, 0, none⟩ = some (.int .i64 t334) := (blk_cell BK344.out 0).trans rfl
        have hcz361_1 : wr.cell? ⟨gb344, 1, none⟩ = some (.int .i64 t335) := (blk_cell BK344.out 1).trans rfl
        have hcz361_2 : wr.cell? ⟨gb344, 2, none⟩ = some (.int .i64 t336) := (blk_cell BK344.out 2).trans rfl
        have hcz361_3 : wr.cell? ⟨gb344, 3, none⟩ = some (.int .i64 t337) := (blk_cell BK344.out 3).trans rfl
        have hcz361_4 : wr.cell? ⟨gb344, 4, none⟩ = some (.int .i64 t338) := (blk_cell BK344.out 4).trans rfl
        have hcz361_5 : wr.cell? ⟨gb344, 5, none⟩ = some (.int .i64 t339) := (blk_cell BK344.out 5).trans rfl
        have hcz361_6 : wr.cell? ⟨gb344, 6, none⟩ = some (.int .i64 t340) := (blk_cell BK344.out 6).trans rfl
        have hcz361_7 : wr.cell? ⟨gb344, 7, none⟩ = some (.int .i64 t341) := (blk_cell BK344.out 7).trans rfl
        have hcz361_8 : wr.cell? ⟨gb344, 8, none⟩ = some (.int .i64 t342) := (blk_cell BK344.out 8).trans rfl
        have hcz361_9 : wr.cell? ⟨gb344, 9, none⟩ = some (.int .i64 t343) := (blk_cell BK344.out 9).trans rfl
        have hfz361_0 := blk_frozen BK344.out 0
        have hfz361_1 := blk_frozen BK344.out 1
        have hfz361_2 := blk_frozen BK344.out 2
        have hfz361_3 := blk_frozen BK344.out 3
        have hfz361_4 := blk_frozen BK344.out 4
        have hfz361_5 := blk_frozen BK344.out 5
        have hfz361_6 := blk_frozen BK344.out 6
        have hfz361_7 := blk_frozen BK344.out 7
        have hfz361_8 := blk_frozen BK344.out 8
        have hfz361_9 := blk_frozen BK344.out 9
        have hnb362 := NB346_345.out
        have hnc362 := NB345_346.out
        have hcz363_0 : wr.cell? ⟨gb346, 0, none⟩ = some (.int .i64 x347000_1) := (blk_cell BK346.out 0).trans rfl
        have hcz363_1 : wr.cell? ⟨gb346, 1, none⟩ = some (.int .i64 x347001_1) := (blk_cell BK346.out 1).trans rfl
        have hcz363_2 : wr.cell? ⟨gb346, 2, none⟩ = some (.int .i64 x347002_1) := (blk_cell BK346.out 2).trans rfl
        have hcz363_3 : wr.cell? ⟨gb346, 3, none⟩ = some (.int .i64 x347003_1) := (blk_cell BK346.out 3).trans rfl
        have hfz363_0 := blk_frozen BK346.out 0
        have hfz363_1 := blk_frozen BK346.out 1
        have hfz363_2 := blk_frozen BK346.out 2
        have hfz363_3 := blk_frozen BK346.out 3
        go_wp2
        go_ret
        exact ⟨by first | rfl | (simp [errW_none, errW_some] <;> rfl) | (simp [*, errW_none, errW_some] <;> rfl), by repeat (first | (with_reducible first | exact HB.out | apply below_alloc | apply pw_below_drewN | apply below_drew1 | refine below_set ?_ GE344.out | refine below_set ?_ GE345.out | refine below_set ?_ GE346.out) | exact HB.out)⟩
      ·rw [if_neg c329] at H
       have c329b0 : (t338 == x347000_1 && (t339 == x347001_1 && (t340 == x347002_1 && (t341 == x347003_1)))) = false := by simpa using c329
       try (have c329b8 := Bool.eq_false_iff.mp c329b0; simp only [ne_eq, Bool.and_eq_true, beq_iff_eq] at c329b8; replace c329b8 := eq_false c329b8)
       (try (have c329b1 : decide (t338 = x347000_1 && (t339 == x347001_1 && (t340 == x347002_1 && (t341 == x347003_1)))) = false := by simpa using c329))
       (try (have c329b2 : (t338 == x347000_1 && (t339 == x347001_1 && (t340 == x347002_1 && (t341 == x347003_1)))) = false := by simpa using c329))
       (try (have c329b3 : ¬ (t338 = x347000_1 && (t339 == x347001_1 && (t340 == x347002_1 && (t341 == x347003_1)))) := by simpa using c329))
       clear c329
       obtain rfl := Option.some.inj H
       have hnb364 := NB344_345.out
       have hnc364 := NB345_344.out
       have hnb365 := NB344_346.out
       have hnc365 := NB346_344.out
       have hcz366_0 : wr.cell? ⟨gb344, 0, none⟩ = some (.int .i64 t334) := (blk_cell BK344.out 0).trans rfl
       have hcz366_1 : wr.cell? ⟨gb344, 1, none⟩ = some (.int .i64 t335) := (blk_cell BK344.out 1).trans rfl
       have hcz366_2 : wr.cell? ⟨gb344, 2, none⟩ = some (.int .i64 t336) := (blk_cell BK344.out 2).trans rfl
       have hcz366_3 : wr.cell? ⟨gb344, 3, none⟩ = some (.int .i64 t337) := (blk_cell BK344.out 3).trans rfl
       have hcz366_4 : wr.cell? ⟨gb344, 4, none⟩ = some (.int .i64 t338) := (blk_cell BK344.out 4).trans rfl
       have hcz366_5 : wr.cell? ⟨gb344, 5, none⟩ = some (.int .i64 t339) := (blk_cell BK344.out 5).trans rfl
       have hcz366_6 : wr.cell? ⟨gb344, 6, none⟩ = some (.int .i64 t340) := (blk_cell BK344.out 6).trans rfl
       have hcz366_7 : wr.cell? ⟨gb344, 7, none⟩ = some (.int .i64 t341) := (blk_cell BK344.out 7).trans rfl
       have hcz366_8 : wr.cell? ⟨gb344, 8, none⟩ = some (.int .i64 t342) := (blk_cell BK344.out 8).trans rfl
       have hcz366_9 : wr.cell? ⟨gb344, 9, none⟩ = some (.int .i64 t343) := (blk_cell BK344.out 9).trans rfl
       have hfz366_0 := blk_frozen BK344.out 0
       have hfz366_1 := blk_frozen BK344.out 1
       have hfz366_2 := blk_frozen BK344.out 2
       have hfz366_3 := blk_frozen BK344.out 3
       have hfz366_4 := blk_frozen BK344.out 4
       have hfz366_5 := blk_frozen BK344.out 5
       have hfz366_6 := blk_frozen BK344.out 6
       have hfz366_7 := blk_frozen BK344.out 7
       have hfz366_8 := blk_frozen BK344.out 8
       have hfz366_9 := blk_frozen BK344.out 9
       have hnb367 := NB346_345.out
       have hnc367 := NB345_346.out
       have hcz368_0 : wr.cell? ⟨gb346, 0, none⟩ = some (.int .i64 x347000_1) := (blk_cell BK346.out 0).trans rfl
       have hcz368_1 : wr.cell? ⟨gb346, 1, none⟩ = some (.int .i64 x347001_1) := (blk_cell BK346.out 1).trans rfl
       have hcz368_2 : wr.cell? ⟨gb346, 2, none⟩ = some (.int .i64 x347002_1) := (blk_cell BK346.out 2).trans rfl
       have hcz368_3 : wr.cell? ⟨gb346, 3, none⟩ = some (.int .i64 x347003_1) := (blk_cell BK346.out 3).trans rfl
       have hfz368_0 := blk_frozen BK346.out 0
       have hfz368_1 := blk_frozen BK346.out 1
       have hfz368_2 := blk_frozen BK346.out 2
       have hfz368_3 := blk_frozen BK346.out 3
       go_wp2
       go_ret
       exact ⟨by first | rfl | (simp [errW_none, errW_some] <;> rfl) | (simp [*, errW_none, errW_some] <;> rfl), by repeat (first | (with_reducible first | exact HB.out | apply below_alloc | apply pw_below_drewN | apply below_drew1 | refine below_set ?_ GE344.out | refine below_set ?_ GE345.out | refine below_set ?_ GE346.out) | exact HB.out)⟩
     ·rw [if_neg c328] at H
      have c328b0 : (t334 == (t331.length : Int)) = false := beq_eq_false_iff_ne.mpr c328
      have c328b1 : (t334 != (t331.length : Int)) = true := bne_iff_ne.mpr c328
      obtain rfl := Option.some.inj H
      have hnb369 := NB344_345.out
      have hnc369 := NB345_344.out
      have hnb370 := NB344_346.out
      have hnc370 := NB346_344.out
      have hcz371_0 : wr.cell? ⟨gb344, 0, none⟩ = some (.int .i64 t334) := (blk_cell BK344.out 0).trans rfl
      have hcz371_1 : wr.cell? ⟨gb344, 1, none⟩ = some (.int .i64 t335) := (blk_cell BK344.out 1).trans rfl
      have hcz371_2 : wr.cell? ⟨gb344, 2, none⟩ = some (.int .i64 t336) := (blk_cell BK344.out 2).trans rfl
      have hcz371_3 : wr.cell? ⟨gb344, 3, none⟩ = some (.int .i64 t337) := (blk_cell BK344.out 3).trans rfl
      have hcz371_4 : wr.cell? ⟨gb344, 4, none⟩ = some (.int .i64 t338) := (blk_cell BK344.out 4).trans rfl
      have hcz371_5 : wr.cell? ⟨gb344, 5, none⟩ = some (.int .i64 t339) := (blk_cell BK344.out 5).trans rfl
      have hcz371_6 : wr.cell? ⟨gb344, 6, none⟩ = some (.int .i64 t340) := (blk_cell BK344.out 6).trans rfl
      have hcz371_7 : wr.cell? ⟨gb344, 7, none⟩ = some (.int .i64 t341) := (blk_cell BK344.out 7).trans rfl
      have hcz371_8 : wr.cell? ⟨gb344, 8, none⟩ = some (.int .i64 t342) := (blk_cell BK344.out 8).trans rfl
      have hcz371_9 : wr.cell? ⟨gb344, 9, none⟩ = some (.int .i64 t343) := (blk_cell BK344.out 9).trans rfl
      have hfz371_0 := blk_frozen BK344.out 0
      have hfz371_1 := blk_frozen BK344.out 1
      have hfz371_2 := blk_frozen BK344.out 2
      have hfz371_3 := blk_frozen BK344.out 3
      have hfz371_4 := blk_frozen BK344.out 4
      have hfz371_5 := blk_frozen BK344.out 5
      have hfz371_6 := blk_frozen BK344.out 6
      have hfz371_7 := blk_frozen BK344.out 7
      have hfz371_8 := blk_frozen BK344.out 8
      have hfz371_9 := blk_frozen BK344.out 9
      go_wp2
      go_ret
      exact ⟨by first | rfl | (simp [errW_none, errW_some] <;> rfl) | (simp [*, errW_none, errW_some] <;> rfl), by repeat (first | (with_reducible first | exact HB.out | apply below_alloc | apply pw_below_drewN | apply below_drew1 | refine below_set ?_ GE344.out | refine below_set ?_ GE345.out | refine below_set ?_ GE346.out) | exact HB.out)⟩

/-- THE ONE PURE STATEMENT of headgatelaw15_FoldCounts: yours. -/
def headgatelaw15_FoldCounts.Pure : Prop := ∀ (l0 : List Int), l0.length ≤ maxLen → l0.length * 8 ≤ 140737488351232 → (∀ x ∈ l0, (Lit.int .i64 x).wf = true) → ∃ k, headgatelaw15_FoldCounts.f k l0 = some true
theorem headgatelaw15_FoldCounts.walk (P : headgatelaw15_FoldCounts.Pure) (a0 : Option Addr) (len0 cap0 : Nat) (z0 : List Int) (w : World) (w0 : (a0 = none ∧ len0 = 0 ∧ cap0 = 0 ∧ z0 = []) ∨ ∃ x, a0 = some x ∧ len0 ≤ cap0 ∧ cap0 ≤ maxLen ∧ z0.length = cap0 ∧ (∀ i, i < z0.length → w.cell? (x.add i) = some (.int .i64 (z0.getD i 0))) ∧ ∀ n ∈ z0, (Lit.int .i64 n).wf = true) (y0 : len0 * 8 ≤ 140737488351232) :
  Calls Try.prog 7 #[.slice a0 len0 cap0] w fun e w' => e = .returned (.bool true) ∧ Below w.heap.size w w' := by
 obtain ⟨l0, rfl, hr0, hm0, hw0, hc0⟩ := ReadsInt.ofRowC w0
 obtain ⟨k, h⟩ := P l0 hm0 y0 hw0
 refine (headgatelaw15_FoldCounts.calls k _ _ l0 true w (Kd.C_of_reads (d := (0 : Int)) (h1 := fun _ => rfl) hr0) hc0 h).mono ?_
 rintro e w' ⟨rfl, hd⟩
 exact ⟨rfl, hd⟩

end Go.Proofs.Ytpffggpedogifaa.P
