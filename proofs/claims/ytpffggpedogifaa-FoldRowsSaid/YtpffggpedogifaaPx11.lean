-- Written by wip/mk.py of this repo: the kit's print program, with contracts of our own among its functions.
import Derived.Test.YtpffggpedogifaaPx0
import Derived.Test.YtpffggpedogifaaPx2
import Derived.Test.YtpffggpedogifaaPx4
import Derived.Test.YtpffggpedogifaaPx7
import Derived.Test.YtpffggpedogifaaPx9
import Derived.Test.YtpffggpedogifaaPx10
namespace Go.Proofs.Ytpffggpedogifaa.P
open Go.RowKit Go.Proofs.YtpffggpedogifaaW.PrintWords Go.Proofs.YtpffggpedogifaaW.PrintLast Go.Proofs.YtpffggpedogifaaW.PrintMore
attribute [local go_sem] max2_int min2_int max_two min_two max_three min_three max_four min_four   -- for this text's walks alone
set_option linter.unusedVariables false
set_option linter.unusedSimpArgs false

attribute [local go_sem high] eqA24
/-! ### headgatelaw15_FoldRows: function 4 -/
def headgatelaw15_FoldRows.l0 : Nat → List Int → Int → Int → Int → Int → Int → Int → Int → Int → Int → Int → Int → Int → Int → Int → Int → Int → Int → Int → Int → Int → Int → Option (Bool)
  | 0, _, _, _, _, _, _, _, _, _, _, _, _, _, _, _, _, _, _, _, _, _, _ => none
  | k + 1, x0, x8, x211000, x211001, x211002, x211003, x211004, x211005, x211006, x211007, x211008, x211009, x237000, x237001, x237002, x237003, x237004, x237005, x237006, x237007, x237008, x237009 => if x8 < (x0.length : Int) then (if 0 ≤ x8 then ((fold_Add.f k x237000 x237001 x237002 x237003 x237004 x237005 x237006 x237007 x237008 x237009 (rd x0 x8)).bind fun bt238 => (headgatelaw15_FoldRows.l0 k x0 (wrap64 (x8 + 1)) x211000 x211001 x211002 x211003 x211004 x211005 x211006 x211007 x211008 x211009 bt238.1 bt238.2.1 bt238.2.2.1 bt238.2.2.2.1 bt238.2.2.2.2.1 bt238.2.2.2.2.2.1 bt238.2.2.2.2.2.2.1 bt238.2.2.2.2.2.2.2.1 bt238.2.2.2.2.2.2.2.2.1 bt238.2.2.2.2.2.2.2.2.2)) else (none)) else (if (x211000 == x237000 && (x211001 == x237001 && (x211002 == x237002 && (x211003 == x237003 && ((x211004 == x237004 && (x211005 == x237005 && (x211006 == x237006 && (x211007 == x237007)))) && (x211008 == x237008 && (x211009 == x237009))))))) = true then ((headgatelaw15_awake.f k).bind fun t248 => (some t248)) else (some false))
def headgatelaw15_FoldRows.f (k : Nat) (l0 : List Int) (a1 : Int) : Option (Bool) := (headgatelaw15_some.f l0).bind fun t197 => ((fold_All.f k t197).bind fun bt200 => ((headgateref15_All.f k t197).bind fun bt211 => (if (!(bt200.1 == bt211.1) || (!(bt200.2.1 == bt211.2.1) || (!(bt200.2.2.1 == bt211.2.2.1) || (!(bt200.2.2.2.1 == bt211.2.2.2.1) || ((!(bt200.2.2.2.2.1 == bt211.2.2.2.2.1) || (!(bt200.2.2.2.2.2.1 == bt211.2.2.2.2.2.1) || (!(bt200.2.2.2.2.2.2.1 == bt211.2.2.2.2.2.2.1) || (!(bt200.2.2.2.2.2.2.2.1 == bt211.2.2.2.2.2.2.2.1))))) || (!(bt200.2.2.2.2.2.2.2.2.1 == bt211.2.2.2.2.2.2.2.2.1) || (!(bt200.2.2.2.2.2.2.2.2.2 == bt211.2.2.2.2.2.2.2.2.2)))))))) = true then (some false) else (if (wrap64 ((t197.length : Int) + 1)) = 0 then (none) else (if 0 ≤ (Int.tmod (wrap64 ((wrap64 ((Int.tmod a1 (wrap64 ((t197.length : Int) + 1))) + (t197.length : Int))) + 1)) (wrap64 ((t197.length : Int) + 1))) then (if (Int.tmod (wrap64 ((wrap64 ((Int.tmod a1 (wrap64 ((t197.length : Int) + 1))) + (t197.length : Int))) + 1)) (wrap64 ((t197.length : Int) + 1))) ≤ (t197.length : Int) then ((fold_All.f k (t197.take ((Int.tmod (wrap64 ((wrap64 ((Int.tmod a1 (wrap64 ((t197.length : Int) + 1))) + (t197.length : Int))) + 1)) (wrap64 ((t197.length : Int) + 1))) : Int).toNat)).bind fun bt226 => (headgatelaw15_FoldRows.l0 k t197 (Int.tmod (wrap64 ((wrap64 ((Int.tmod a1 (wrap64 ((t197.length : Int) + 1))) + (t197.length : Int))) + 1)) (wrap64 ((t197.length : Int) + 1))) bt200.1 bt200.2.1 bt200.2.2.1 bt200.2.2.2.1 bt200.2.2.2.2.1 bt200.2.2.2.2.2.1 bt200.2.2.2.2.2.2.1 bt200.2.2.2.2.2.2.2.1 bt200.2.2.2.2.2.2.2.2.1 bt200.2.2.2.2.2.2.2.2.2 bt226.1 bt226.2.1 bt226.2.2.1 bt226.2.2.2.1 bt226.2.2.2.2.1 bt226.2.2.2.2.2.1 bt226.2.2.2.2.2.2.1 bt226.2.2.2.2.2.2.2.1 bt226.2.2.2.2.2.2.2.2.1 bt226.2.2.2.2.2.2.2.2.2)) else (none)) else (none))))))
theorem headgatelaw15_FoldRows.mono_l : ∀ k, (∀ y0 y1 y2 y3 y4 y5 y6 y7 y8 y9 y10 y11 y12 y13 y14 y15 y16 y17 y18 y19 y20 y21, LeO (headgatelaw15_FoldRows.l0 k y0 y1 y2 y3 y4 y5 y6 y7 y8 y9 y10 y11 y12 y13 y14 y15 y16 y17 y18 y19 y20 y21) (headgatelaw15_FoldRows.l0 (k + 1) y0 y1 y2 y3 y4 y5 y6 y7 y8 y9 y10 y11 y12 y13 y14 y15 y16 y17 y18 y19 y20 y21))
  | 0 => fun _ _ _ _ _ _ _ _ _ _ _ _ _ _ _ _ _ _ _ _ _ _ r h => by simp [headgatelaw15_FoldRows.l0] at h
  | k + 1 => by
    have ih0 := headgatelaw15_FoldRows.mono_l k
    · intro y0 y1 y2 y3 y4 y5 y6 y7 y8 y9 y10 y11 y12 y13 y14 y15 y16 y17 y18 y19 y20 y21
      unfold headgatelaw15_FoldRows.l0
      repeat' first
      | (with_reducible exact ih0 _ _ _ _ _ _ _ _ _ _ _ _ _ _ _ _ _ _ _ _ _ _)
      | (with_reducible exact fold_Add.mono _ _ _ _ _ _ _ _ _ _ _ _)
      | (with_reducible exact fold_All.mono _ _)
      | (with_reducible exact headgatelaw15_awake.mono _)
      | (with_reducible exact headgateref15_All.mono _ _)
      | (with_reducible exact LeO.refl _)
      | (with_reducible exact LeO.none _)
      | (with_reducible refine LeO.ite ?_ ?_)
      | (with_reducible refine LeO.bind ?_ (fun _ => ?_))
      | exact ih0 _ _ _ _ _ _ _ _ _ _ _ _ _ _ _ _ _ _ _ _ _ _
      | exact fold_Add.mono _ _ _ _ _ _ _ _ _ _ _ _
      | exact fold_All.mono _ _
      | exact headgatelaw15_awake.mono _
      | exact headgateref15_All.mono _ _
      | exact LeO.none _
      | refine LeO.ite ?_ ?_
      | refine LeO.bind ?_ (fun _ => ?_)
theorem headgatelaw15_FoldRows.mono : ∀ a0 a1 k, LeO (headgatelaw15_FoldRows.f k a0 a1) (headgatelaw15_FoldRows.f (k + 1) a0 a1) := by
  intro a0 a1 k
  have ih0 := headgatelaw15_FoldRows.mono_l k
  unfold headgatelaw15_FoldRows.f
  repeat' first
      | (with_reducible exact ih0 _ _ _ _ _ _ _ _ _ _ _ _ _ _ _ _ _ _ _ _ _ _)
      | (with_reducible exact fold_Add.mono _ _ _ _ _ _ _ _ _ _ _ _)
      | (with_reducible exact fold_All.mono _ _)
      | (with_reducible exact headgatelaw15_awake.mono _)
      | (with_reducible exact headgateref15_All.mono _ _)
      | (with_reducible exact LeO.refl _)
      | (with_reducible exact LeO.none _)
      | (with_reducible refine LeO.ite ?_ ?_)
      | (with_reducible refine LeO.bind ?_ (fun _ => ?_))
      | exact ih0 _ _ _ _ _ _ _ _ _ _ _ _ _ _ _ _ _ _ _ _ _ _
      | exact fold_Add.mono _ _ _ _ _ _ _ _ _ _ _ _
      | exact fold_All.mono _ _
      | exact headgatelaw15_awake.mono _
      | exact headgateref15_All.mono _ _
      | exact LeO.none _
      | refine LeO.ite ?_ ?_
      | refine LeO.bind ?_ (fun _ => ?_)
set_option maxHeartbeats 8000000 in
set_option maxRecDepth 100000 in
theorem headgatelaw15_FoldRows.calls (k : Nat) (A0 : Option Addr) (c0 : Nat) (l0 : List Int) (a1 : Int) (r : Bool) (w : World) (hr0 : Kd.C (Kd.int .i64) w A0 l0.length l0) (hc0 : l0.length ≤ c0) (h : headgatelaw15_FoldRows.f k l0 a1 = some r) :
    Calls Try.prog 4 #[.slice A0 l0.length c0, .int .i64 a1] w fun e w' => e = .returned (.bool r) ∧ Below w.heap.size w w' := by
  have hu24 := Try.underlying24
  have HR0 := Aside0.mk hr0
  have HC0 := Aside0.mk hc0
  clear hr0 hc0
  have HB := Aside0.mk (Below.refl w.heap.size w)
  have H : ((headgatelaw15_some.f l0).bind fun t197 => ((fold_All.f k t197).bind fun bt200 => ((headgateref15_All.f k t197).bind fun bt211 => (if (!(bt200.1 == bt211.1) || (!(bt200.2.1 == bt211.2.1) || (!(bt200.2.2.1 == bt211.2.2.1) || (!(bt200.2.2.2.1 == bt211.2.2.2.1) || ((!(bt200.2.2.2.2.1 == bt211.2.2.2.2.1) || (!(bt200.2.2.2.2.2.1 == bt211.2.2.2.2.2.1) || (!(bt200.2.2.2.2.2.2.1 == bt211.2.2.2.2.2.2.1) || (!(bt200.2.2.2.2.2.2.2.1 == bt211.2.2.2.2.2.2.2.1))))) || (!(bt200.2.2.2.2.2.2.2.2.1 == bt211.2.2.2.2.2.2.2.2.1) || (!(bt200.2.2.2.2.2.2.2.2.2 == bt211.2.2.2.2.2.2.2.2.2)))))))) = true then (some false) else (if (wrap64 ((t197.length : Int) + 1)) = 0 then (none) else (if 0 ≤ (Int.tmod (wrap64 ((wrap64 ((Int.tmod a1 (wrap64 ((t197.length : Int) + 1))) + (t197.length : Int))) + 1)) (wrap64 ((t197.length : Int) + 1))) then (if (Int.tmod (wrap64 ((wrap64 ((Int.tmod a1 (wrap64 ((t197.length : Int) + 1))) + (t197.length : Int))) + 1)) (wrap64 ((t197.length : Int) + 1))) ≤ (t197.length : Int) then ((fold_All.f k (t197.take ((Int.tmod (wrap64 ((wrap64 ((Int.tmod a1 (wrap64 ((t197.length : Int) + 1))) + (t197.length : Int))) + 1)) (wrap64 ((t197.length : Int) + 1))) : Int).toNat)).bind fun bt226 => (headgatelaw15_FoldRows.l0 k t197 (Int.tmod (wrap64 ((wrap64 ((Int.tmod a1 (wrap64 ((t197.length : Int) + 1))) + (t197.length : Int))) + 1)) (wrap64 ((t197.length : Int) + 1))) bt200.1 bt200.2.1 bt200.2.2.1 bt200.2.2.2.1 bt200.2.2.2.2.1 bt200.2.2.2.2.2.1 bt200.2.2.2.2.2.2.1 bt200.2.2.2.2.2.2.2.1 bt200.2.2.2.2.2.2.2.2.1 bt200.2.2.2.2.2.2.2.2.2 bt226.1 bt226.2.1 bt226.2.2.1 bt226.2.2.2.1 bt226.2.2.2.2.1 bt226.2.2.2.2.2.1 bt226.2.2.2.2.2.2.1 bt226.2.2.2.2.2.2.2.1 bt226.2.2.2.2.2.2.2.2.1 bt226.2.2.2.2.2.2.2.2.2)) else (none)) else (none))))))) = some r := h
  clear h
  replace H := Option.bind_eq_some_iff.mp H
  obtain ⟨t197, A30, H⟩ := H
  replace H : ((fold_All.f k t197).bind fun bt200 => ((headgateref15_All.f k t197).bind fun bt211 => (if (!(bt200.1 == bt211.1) || (!(bt200.2.1 == bt211.2.1) || (!(bt200.2.2.1 == bt211.2.2.1) || (!(bt200.2.2.2.1 == bt211.2.2.2.1) || ((!(bt200.2.2.2.2.1 == bt211.2.2.2.2.1) || (!(bt200.2.2.2.2.2.1 == bt211.2.2.2.2.2.1) || (!(bt200.2.2.2.2.2.2.1 == bt211.2.2.2.2.2.2.1) || (!(bt200.2.2.2.2.2.2.2.1 == bt211.2.2.2.2.2.2.2.1))))) || (!(bt200.2.2.2.2.2.2.2.2.1 == bt211.2.2.2.2.2.2.2.2.1) || (!(bt200.2.2.2.2.2.2.2.2.2 == bt211.2.2.2.2.2.2.2.2.2)))))))) = true then (some false) else (if (wrap64 ((t197.length : Int) + 1)) = 0 then (none) else (if 0 ≤ (Int.tmod (wrap64 ((wrap64 ((Int.tmod a1 (wrap64 ((t197.length : Int) + 1))) + (t197.length : Int))) + 1)) (wrap64 ((t197.length : Int) + 1))) then (if (Int.tmod (wrap64 ((wrap64 ((Int.tmod a1 (wrap64 ((t197.length : Int) + 1))) + (t197.length : Int))) + 1)) (wrap64 ((t197.length : Int) + 1))) ≤ (t197.length : Int) then ((fold_All.f k (t197.take ((Int.tmod (wrap64 ((wrap64 ((Int.tmod a1 (wrap64 ((t197.length : Int) + 1))) + (t197.length : Int))) + 1)) (wrap64 ((t197.length : Int) + 1))) : Int).toNat)).bind fun bt226 => (headgatelaw15_FoldRows.l0 k t197 (Int.tmod (wrap64 ((wrap64 ((Int.tmod a1 (wrap64 ((t197.length : Int) + 1))) + (t197.length : Int))) + 1)) (wrap64 ((t197.length : Int) + 1))) bt200.1 bt200.2.1 bt200.2.2.1 bt200.2.2.2.1 bt200.2.2.2.2.1 bt200.2.2.2.2.2.1 bt200.2.2.2.2.2.2.1 bt200.2.2.2.2.2.2.2.1 bt200.2.2.2.2.2.2.2.2.1 bt200.2.2.2.2.2.2.2.2.2 bt226.1 bt226.2.1 bt226.2.2.1 bt226.2.2.2.1 bt226.2.2.2.2.1 bt226.2.2.2.2.2.1 bt226.2.2.2.2.2.2.1 bt226.2.2.2.2.2.2.2.1 bt226.2.2.2.2.2.2.2.2.1 bt226.2.2.2.2.2.2.2.2.2)) else (none)) else (none)))))) = some r := H
  have A3 := Aside0.mk A30
  clear A30
  replace H := Option.bind_eq_some_iff.mp H
  obtain ⟨⟨t200, t201, t202, t203, t204, t205, t206, t207, t208, t209⟩, A40, H⟩ := H
  replace H : ((headgateref15_All.f k t197).bind fun bt211 => (if (!(t200 == bt211.1) || (!(t201 == bt211.2.1) || (!(t202 == bt211.2.2.1) || (!(t203 == bt211.2.2.2.1) || ((!(t204 == bt211.2.2.2.2.1) || (!(t205 == bt211.2.2.2.2.2.1) || (!(t206 == bt211.2.2.2.2.2.2.1) || (!(t207 == bt211.2.2.2.2.2.2.2.1))))) || (!(t208 == bt211.2.2.2.2.2.2.2.2.1) || (!(t209 == bt211.2.2.2.2.2.2.2.2.2)))))))) = true then (some false) else (if (wrap64 ((t197.length : Int) + 1)) = 0 then (none) else (if 0 ≤ (Int.tmod (wrap64 ((wrap64 ((Int.tmod a1 (wrap64 ((t197.length : Int) + 1))) + (t197.length : Int))) + 1)) (wrap64 ((t197.length : Int) + 1))) then (if (Int.tmod (wrap64 ((wrap64 ((Int.tmod a1 (wrap64 ((t197.length : Int) + 1))) + (t197.length : Int))) + 1)) (wrap64 ((t197.length : Int) + 1))) ≤ (t197.length : Int) then ((fold_All.f k (t197.take ((Int.tmod (wrap64 ((wrap64 ((Int.tmod a1 (wrap64 ((t197.length : Int) + 1))) + (t197.length : Int))) + 1)) (wrap64 ((t197.length : Int) + 1))) : Int).toNat)).bind fun bt226 => (headgatelaw15_FoldRows.l0 k t197 (Int.tmod (wrap64 ((wrap64 ((Int.tmod a1 (wrap64 ((t197.length : Int) + 1))) + (t197.length : Int))) + 1)) (wrap64 ((t197.length : Int) + 1))) t200 t201 t202 t203 t204 t205 t206 t207 t208 t209 bt226.1 bt226.2.1 bt226.2.2.1 bt226.2.2.2.1 bt226.2.2.2.2.1 bt226.2.2.2.2.2.1 bt226.2.2.2.2.2.2.1 bt226.2.2.2.2.2.2.2.1 bt226.2.2.2.2.2.2.2.2.1 bt226.2.2.2.2.2.2.2.2.2)) else (none)) else (none))))) = some r := H
  have A4 := Aside0.mk A40
  clear A40
  replace H := Option.bind_eq_some_iff.mp H
  obtain ⟨⟨t211, t212, t213, t214, t215, t216, t217, t218, t219, t220⟩, A50, H⟩ := H
  replace H : (if (!(t200 == t211) || (!(t201 == t212) || (!(t202 == t213) || (!(t203 == t214) || ((!(t204 == t215) || (!(t205 == t216) || (!(t206 == t217) || (!(t207 == t218))))) || (!(t208 == t219) || (!(t209 == t220)))))))) = true then (some false) else (if (wrap64 ((t197.length : Int) + 1)) = 0 then (none) else (if 0 ≤ (Int.tmod (wrap64 ((wrap64 ((Int.tmod a1 (wrap64 ((t197.length : Int) + 1))) + (t197.length : Int))) + 1)) (wrap64 ((t197.length : Int) + 1))) then (if (Int.tmod (wrap64 ((wrap64 ((Int.tmod a1 (wrap64 ((t197.length : Int) + 1))) + (t197.length : Int))) + 1)) (wrap64 ((t197.length : Int) + 1))) ≤ (t197.length : Int) then ((fold_All.f k (t197.take ((Int.tmod (wrap64 ((wrap64 ((Int.tmod a1 (wrap64 ((t197.length : Int) + 1))) + (t197.length : Int))) + 1)) (wrap64 ((t197.length : Int) + 1))) : Int).toNat)).bind fun bt226 => (headgatelaw15_FoldRows.l0 k t197 (Int.tmod (wrap64 ((wrap64 ((Int.tmod a1 (wrap64 ((t197.length : Int) + 1))) + (t197.length : Int))) + 1)) (wrap64 ((t197.length : Int) + 1))) t200 t201 t202 t203 t204 t205 t206 t207 t208 t209 bt226.1 bt226.2.1 bt226.2.2.1 bt226.2.2.2.1 bt226.2.2.2.2.1 bt226.2.2.2.2.2.1 bt226.2.2.2.2.2.2.1 bt226.2.2.2.2.2.2.2.1 bt226.2.2.2.2.2.2.2.2.1 bt226.2.2.2.2.2.2.2.2.2)) else (none)) else (none)))) = some r := H
  have A5 := Aside0.mk A50
  clear A50
  by_cases c6 : (!(t200 == t211) || (!(t201 == t212) || (!(t202 == t213) || (!(t203 == t214) || ((!(t204 == t215) || (!(t205 == t216) || (!(t206 == t217) || (!(t207 == t218))))) || (!(t208 == t219) || (!(t209 == t220)))))))) = true
  · rw [if_pos c6] at H
    have c6b0 : (!(t200 == t211) || (!(t201 == t212) || (!(t202 == t213) || (!(t203 == t214) || ((!(t204 == t215) || (!(t205 == t216) || (!(t206 == t217) || (!(t207 == t218))))) || (!(t208 == t219) || (!(t209 == t220)))))))) = true := c6
    clear c6
    obtain rfl := Option.some.inj H
    go_enter Try.func4, Try.ntmps4
    try go_wp2_with (first | ((with_reducible refine gate_callee (f := 15) rfl ?_); refine goesL_ (some 10) rfl rfl Try.func15 (by kernel_rfl) rfl #[.slice A0 l0.length c0] rfl (by (try simp only [List.map_toArray, List.map_cons, List.map_nil]); first | done | rfl | (simp only [List.length_drop, List.length_take]; rfl)) ?_; (with_reducible refine (headgatelaw15_some.calls (fun k_ => k_ < w.heap.size) _ _ l0 t197 _ ?side1 A3.out).mono ?_); (case side1 => exact Kd.V_mk HC0.out (Kd.F_below (Kd.C_F (Kd.heap_int .i64) HR0.out) (by repeat (first | (with_reducible first | exact HB.out | apply below_alloc | apply pw_below_drewN | apply below_drew1) | exact HB.out)))); rintro e w7 ⟨v198, rfl, ho0, hb⟩; refine ⟨_, rfl, ?_⟩; have n0_ := Aside0.mk (Kd.V_lower (Kd.V_mono (ok' := fun k_ => True) ho0 (fun k_ hk_ => trivial)) (below_size (by repeat (first | (with_reducible first | exact HB.out | apply below_alloc | apply pw_below_drewN | apply below_drew1) | exact HB.out)))); have n1_ := Aside0.mk (below_step (by repeat (first | (with_reducible first | exact HB.out | apply below_alloc | apply pw_below_drewN | apply below_drew1) | exact HB.out)) hb); clear HB; have HO199 := n0_; have HB := n1_; clear n0_ n1_; (try clear hb); (try clear hb2); (try clear hk); (try clear hi); (try clear ho0); obtain ⟨Ao8, co8, eo8⟩ := Kd.V_slice HO199.out; subst eo8) | ((with_reducible refine gate_callee (f := 16) rfl ?_); refine goesL_ (some 12) rfl rfl Try.func16 (by kernel_rfl) rfl #[.slice Ao8 t197.length co8] rfl (by (try simp only [List.map_toArray, List.map_cons, List.map_nil]); first | done | rfl | (simp only [List.length_drop, List.length_take]; rfl)) ?_; (with_reducible refine (fold_All.calls k _ _ t197 t200 t201 t202 t203 t204 t205 t206 t207 t208 t209 _ ?side1 ?side2 A4.out).mono ?_); (case side1 => repeat (first | exact (Kd.V_reads' HO199.out).2.2 | (with_reducible refine Kd.C_alloc ?_ _) | (with_reducible refine Kd.C_drewN ?_ _) | (with_reducible refine Kd.C_drew ?_))); (case side2 => exact (Kd.V_reads' HO199.out).2.1); rintro e w9 ⟨rfl, hb⟩; refine ⟨_, rfl, ?_⟩; have n0_ := Aside0.mk (Kd.V_below (by (with_reducible repeat (first | apply Kd.V_alloc | apply Kd.V_drewN | apply Kd.V_drew)); exact HO199.out) hb); have n1_ := Aside0.mk (below_step (by repeat (first | (with_reducible first | exact HB.out | apply below_alloc | apply pw_below_drewN | apply below_drew1) | exact HB.out)) hb); clear HO199; clear HB; have HO199 := n0_; have HB := n1_; clear n0_ n1_; (try clear hb); (try clear hb2); (try clear hk); (try clear hi)) | ((with_reducible refine gate_dst (N := 5) rfl ?_); refine box_event ?hg (N := 5) ?hd (cs := #[.int .i64 0, .int .i64 0, .int .i64 0, .int .i64 0, .int .i64 0, .int .i64 0, .int .i64 0, .int .i64 0, .int .i64 0, .int .i64 0]) (t := 24) ?hr ?_; (case hd => rfl); (case hg => rfl); (case hr => first | (go_simp; done) | (go_simp; rfl)); intro gb210 hg w10 hbox hb; have n0_ := Aside0.mk (Kd.V_below (Kd.V_elderB (by (with_reducible repeat (first | apply Kd.V_alloc | apply Kd.V_drewN | apply Kd.V_drew)); exact HO199.out) gb210 (Nat.le_of_eq hg.symm)) hb); have n1_ := Aside0.mk (below_step (by repeat (first | (with_reducible first | exact HB.out | apply below_alloc | apply pw_below_drewN | apply below_drew1) | exact HB.out)) hb); have n2_ := Aside0.mk (hbox); have n3_ := Aside0.mk ((by rw [hg]; exact (below_size (by repeat (first | (with_reducible first | exact HB.out | apply below_alloc | apply pw_below_drewN | apply below_drew1) | exact HB.out))) : w.heap.size ≤ gb210)); have n4_ := Aside0.mk ((by rw [hg]; exact (below_size (by repeat (first | (with_reducible first | exact HB.out | apply below_alloc | apply pw_below_drewN | apply below_drew1) | exact HB.out))) : w.heap.size ≤ gb210)); clear HO199; clear HB; have HO199 := n0_; have HB := n1_; have BK210 := n2_; have GW210 := n3_; have GE210 := n4_; clear n0_ n1_ n2_ n3_ n4_; clear hb hbox hg; have hcz11_0 : w10.cell? ⟨gb210, 0, none⟩ = some (.int .i64 0) := (blk_cell BK210.out 0).trans rfl; have hcz11_1 : w10.cell? ⟨gb210, 1, none⟩ = some (.int .i64 0) := (blk_cell BK210.out 1).trans rfl; have hcz11_2 : w10.cell? ⟨gb210, 2, none⟩ = some (.int .i64 0) := (blk_cell BK210.out 2).trans rfl; have hcz11_3 : w10.cell? ⟨gb210, 3, none⟩ = some (.int .i64 0) := (blk_cell BK210.out 3).trans rfl; have hcz11_4 : w10.cell? ⟨gb210, 4, none⟩ = some (.int .i64 0) := (blk_cell BK210.out 4).trans rfl; have hcz11_5 : w10.cell? ⟨gb210, 5, none⟩ = some (.int .i64 0) := (blk_cell BK210.out 5).trans rfl; have hcz11_6 : w10.cell? ⟨gb210, 6, none⟩ = some (.int .i64 0) := (blk_cell BK210.out 6).trans rfl; have hcz11_7 : w10.cell? ⟨gb210, 7, none⟩ = some (.int .i64 0) := (blk_cell BK210.out 7).trans rfl; have hcz11_8 : w10.cell? ⟨gb210, 8, none⟩ = some (.int .i64 0) := (blk_cell BK210.out 8).trans rfl; have hcz11_9 : w10.cell? ⟨gb210, 9, none⟩ = some (.int .i64 0) := (blk_cell BK210.out 9).trans rfl; have hfz11_0 := blk_frozen BK210.out 0; have hfz11_1 := blk_frozen BK210.out 1; have hfz11_2 := blk_frozen BK210.out 2; have hfz11_3 := blk_frozen BK210.out 3; have hfz11_4 := blk_frozen BK210.out 4; have hfz11_5 := blk_frozen BK210.out 5; have hfz11_6 := blk_frozen BK210.out 6; have hfz11_7 := blk_frozen BK210.out 7; have hfz11_8 := blk_frozen BK210.out 8; have hfz11_9 := blk_frozen BK210.out 9))
    have n0_ : Aside0 (Kd.V (Kd.int .i64) 3 ((((((((((w10.setCell ⟨gb210, 0, none⟩ (.int .i64 t200)).setCell ⟨gb210, 1, none⟩ (.int .i64 t201)).setCell ⟨gb210, 2, none⟩ (.int .i64 t202)).setCell ⟨gb210, 3, none⟩ (.int .i64 t203)).setCell ⟨gb210, 4, none⟩ (.int .i64 t204)).setCell ⟨gb210, 5, none⟩ (.int .i64 t205)).setCell ⟨gb210, 6, none⟩ (.int .i64 t206)).setCell ⟨gb210, 7, none⟩ (.int .i64 t207)).setCell ⟨gb210, 8, none⟩ (.int .i64 t208)).setCell ⟨gb210, 9, none⟩ (.int .i64 t209)) w.heap.size (fun k_ => k_ ≠ gb210) (.slice Ao8 t197.length co8) t197) := ⟨by (with_reducible repeat (first | apply Kd.V_alloc | apply Kd.V_drewN | apply Kd.V_drew)); exact Kd.V_mono (Kd.V_far (p := ⟨gb210, 9, none⟩) (Kd.V_far (p := ⟨gb210, 8, none⟩) (Kd.V_far (p := ⟨gb210, 7, none⟩) (Kd.V_far (p := ⟨gb210, 6, none⟩) (Kd.V_far (p := ⟨gb210, 5, none⟩) (Kd.V_far (p := ⟨gb210, 4, none⟩) (Kd.V_far (p := ⟨gb210, 3, none⟩) (Kd.V_far (p := ⟨gb210, 2, none⟩) (Kd.V_far (p := ⟨gb210, 1, none⟩) (Kd.V_far (p := ⟨gb210, 0, none⟩) (Kd.V_mono HO199.out (fun k_ hk => (⟨hk, hk.2⟩ : _ ∧ k_ ≠ gb210))) (fun _ hk => hk.2) (.int .i64 t200)) (fun _ hk => hk.2) (.int .i64 t201)) (fun _ hk => hk.2) (.int .i64 t202)) (fun _ hk => hk.2) (.int .i64 t203)) (fun _ hk => hk.2) (.int .i64 t204)) (fun _ hk => hk.2) (.int .i64 t205)) (fun _ hk => hk.2) (.int .i64 t206)) (fun _ hk => hk.2) (.int .i64 t207)) (fun _ hk => hk.2) (.int .i64 t208)) (fun _ hk => hk.2) (.int .i64 t209)) (fun _ hk => hk.1.2)⟩
    have n1_ : Aside0 (((((((((((w10.setCell ⟨gb210, 0, none⟩ (.int .i64 t200)).setCell ⟨gb210, 1, none⟩ (.int .i64 t201)).setCell ⟨gb210, 2, none⟩ (.int .i64 t202)).setCell ⟨gb210, 3, none⟩ (.int .i64 t203)).setCell ⟨gb210, 4, none⟩ (.int .i64 t204)).setCell ⟨gb210, 5, none⟩ (.int .i64 t205)).setCell ⟨gb210, 6, none⟩ (.int .i64 t206)).setCell ⟨gb210, 7, none⟩ (.int .i64 t207)).setCell ⟨gb210, 8, none⟩ (.int .i64 t208)).setCell ⟨gb210, 9, none⟩ (.int .i64 t209)).heap[gb210]? = some (.cells #[.int .i64 t200, .int .i64 t201, .int .i64 t202, .int .i64 t203, .int .i64 t204, .int .i64 t205, .int .i64 t206, .int .i64 t207, .int .i64 t208, .int .i64 t209] 24 (0, 0))) := ⟨by (with_reducible repeat (first | refine blk_drewN ?_ _ | refine blk_drew ?_ | refine blk_alloc ?_ _)); refine blk_put (cs := #[.int .i64 t200, .int .i64 t201, .int .i64 t202, .int .i64 t203, .int .i64 t204, .int .i64 t205, .int .i64 t206, .int .i64 t207, .int .i64 t208, .int .i64 0]) ?_ 9 _ rfl; (with_reducible repeat (first | refine blk_drewN ?_ _ | refine blk_drew ?_ | refine blk_alloc ?_ _)); refine blk_put (cs := #[.int .i64 t200, .int .i64 t201, .int .i64 t202, .int .i64 t203, .int .i64 t204, .int .i64 t205, .int .i64 t206, .int .i64 t207, .int .i64 0, .int .i64 0]) ?_ 8 _ rfl; (with_reducible repeat (first | refine blk_drewN ?_ _ | refine blk_drew ?_ | refine blk_alloc ?_ _)); refine blk_put (cs := #[.int .i64 t200, .int .i64 t201, .int .i64 t202, .int .i64 t203, .int .i64 t204, .int .i64 t205, .int .i64 t206, .int .i64 0, .int .i64 0, .int .i64 0]) ?_ 7 _ rfl; (with_reducible repeat (first | refine blk_drewN ?_ _ | refine blk_drew ?_ | refine blk_alloc ?_ _)); refine blk_put (cs := #[.int .i64 t200, .int .i64 t201, .int .i64 t202, .int .i64 t203, .int .i64 t204, .int .i64 t205, .int .i64 0, .int .i64 0, .int .i64 0, .int .i64 0]) ?_ 6 _ rfl; (with_reducible repeat (first | refine blk_drewN ?_ _ | refine blk_drew ?_ | refine blk_alloc ?_ _)); refine blk_put (cs := #[.int .i64 t200, .int .i64 t201, .int .i64 t202, .int .i64 t203, .int .i64 t204, .int .i64 0, .int .i64 0, .int .i64 0, .int .i64 0, .int .i64 0]) ?_ 5 _ rfl; (with_reducible repeat (first | refine blk_drewN ?_ _ | refine blk_drew ?_ | refine blk_alloc ?_ _)); refine blk_put (cs := #[.int .i64 t200, .int .i64 t201, .int .i64 t202, .int .i64 t203, .int .i64 0, .int .i64 0, .int .i64 0, .int .i64 0, .int .i64 0, .int .i64 0]) ?_ 4 _ rfl; (with_reducible repeat (first | refine blk_drewN ?_ _ | refine blk_drew ?_ | refine blk_alloc ?_ _)); refine blk_put (cs := #[.int .i64 t200, .int .i64 t201, .int .i64 t202, .int .i64 0, .int .i64 0, .int .i64 0, .int .i64 0, .int .i64 0, .int .i64 0, .int .i64 0]) ?_ 3 _ rfl; (with_reducible repeat (first | refine blk_drewN ?_ _ | refine blk_drew ?_ | refine blk_alloc ?_ _)); refine blk_put (cs := #[.int .i64 t200, .int .i64 t201, .int .i64 0, .int .i64 0, .int .i64 0, .int .i64 0, .int .i64 0, .int .i64 0, .int .i64 0, .int .i64 0]) ?_ 2 _ rfl; (with_reducible repeat (first | refine blk_drewN ?_ _ | refine blk_drew ?_ | refine blk_alloc ?_ _)); refine blk_put (cs := #[.int .i64 t200, .int .i64 0, .int .i64 0, .int .i64 0, .int .i64 0, .int .i64 0, .int .i64 0, .int .i64 0, .int .i64 0, .int .i64 0]) ?_ 1 _ rfl; (with_reducible repeat (first | refine blk_drewN ?_ _ | refine blk_drew ?_ | refine blk_alloc ?_ _)); refine blk_put (cs := #[.int .i64 0, .int .i64 0, .int .i64 0, .int .i64 0, .int .i64 0, .int .i64 0, .int .i64 0, .int .i64 0, .int .i64 0, .int .i64 0]) ?_ 0 _ rfl; (with_reducible repeat (first | refine blk_drewN ?_ _ | refine blk_drew ?_ | refine blk_alloc ?_ _)); exact BK210.out⟩
    have n2_ : Aside0 (Below w.heap.size w ((((((((((w10.setCell ⟨gb210, 0, none⟩ (.int .i64 t200)).setCell ⟨gb210, 1, none⟩ (.int .i64 t201)).setCell ⟨gb210, 2, none⟩ (.int .i64 t202)).setCell ⟨gb210, 3, none⟩ (.int .i64 t203)).setCell ⟨gb210, 4, none⟩ (.int .i64 t204)).setCell ⟨gb210, 5, none⟩ (.int .i64 t205)).setCell ⟨gb210, 6, none⟩ (.int .i64 t206)).setCell ⟨gb210, 7, none⟩ (.int .i64 t207)).setCell ⟨gb210, 8, none⟩ (.int .i64 t208)).setCell ⟨gb210, 9, none⟩ (.int .i64 t209))) := ⟨by repeat (first | (with_reducible first | exact HB.out | apply below_alloc | apply pw_below_drewN | apply below_drew1 | refine below_set ?_ GE210.out) | exact HB.out)⟩
    (try clear HO199)
    (try clear BK210)
    (try clear HB)
    generalize ((((((((((w10.setCell ⟨gb210, 0, none⟩ (.int .i64 t200)).setCell ⟨gb210, 1, none⟩ (.int .i64 t201)).setCell ⟨gb210, 2, none⟩ (.int .i64 t202)).setCell ⟨gb210, 3, none⟩ (.int .i64 t203)).setCell ⟨gb210, 4, none⟩ (.int .i64 t204)).setCell ⟨gb210, 5, none⟩ (.int .i64 t205)).setCell ⟨gb210, 6, none⟩ (.int .i64 t206)).setCell ⟨gb210, 7, none⟩ (.int .i64 t207)).setCell ⟨gb210, 8, none⟩ (.int .i64 t208)).setCell ⟨gb210, 9, none⟩ (.int .i64 t209)) = w12 at n0_ n1_ n2_ ⊢
    have HO199 := n0_
    have BK210 := n1_
    have HB := n2_
    clear n0_ n1_ n2_
    have n0_ := Aside0.mk (Kd.V_drew HO199.out)
    have n1_ := Aside0.mk (blk_drew BK210.out)
    have n2_ := Aside0.mk (below_drew1 HB.out)
    clear HO199
    clear BK210
    clear HB
    have HO199 := n0_
    have BK210 := n1_
    have HB := n2_
    clear n0_ n1_ n2_
    refine start_ (n := 4) (S := fun w' => w'.cell? ⟨gb210, 0, none⟩ = some (.int .i64 t200) ∧ w'.cell? ⟨gb210, 1, none⟩ = some (.int .i64 t201) ∧ w'.cell? ⟨gb210, 2, none⟩ = some (.int .i64 t202) ∧ w'.cell? ⟨gb210, 3, none⟩ = some (.int .i64 t203) ∧ w'.cell? ⟨gb210, 4, none⟩ = some (.int .i64 t204) ∧ w'.cell? ⟨gb210, 5, none⟩ = some (.int .i64 t205) ∧ w'.cell? ⟨gb210, 6, none⟩ = some (.int .i64 t206) ∧ w'.cell? ⟨gb210, 7, none⟩ = some (.int .i64 t207) ∧ w'.cell? ⟨gb210, 8, none⟩ = some (.int .i64 t208) ∧ w'.cell? ⟨gb210, 9, none⟩ = some (.int .i64 t209)) (ds := []) #[false, false, false, false] (by kernel_rfl) rfl rfl ⟨(blk_cell BK210.out 0).trans rfl, (blk_cell BK210.out 1).trans rfl, (blk_cell BK210.out 2).trans rfl, (blk_cell BK210.out 3).trans rfl, (blk_cell BK210.out 4).trans rfl, (blk_cell BK210.out 5).trans rfl, (blk_cell BK210.out 6).trans rfl, (blk_cell BK210.out 7).trans rfl, (blk_cell BK210.out 8).trans rfl, (blk_cell BK210.out 9).trans rfl⟩ (fun hHeld => ?_)
    generalize w12.drew = w13 at HO199 BK210 HB hHeld ⊢
    refine pure_ (i := 1) (N := some 14) (v := ?_) (a' := ?_) #[false, true, false, false] rfl rfl (by kernel_rfl) (fun _ _ _ h => h) (Or.inl ⟨by rfl, ?_⟩) ?_ ?_
    rotate_left
    · intro w'
      go_simp
      with_reducible rfl
    rotate_left
    · simp only [Act.put, List.setIfInBounds_toArray, List.set_cons_zero, List.set_cons_succ, i64_w, i32_w]
      rfl
    refine take_ (i := 0) (N := some 13) (v := ?_) (a' := ?_) #[true, true, false, false] rfl rfl (by kernel_rfl) (fun _ _ _ h => h) (Or.inl ⟨by rfl, ?_⟩) hHeld ?_ ?_
    rotate_left
    · rintro w' ⟨s0, s1, s2, s3, s4, s5, s6, s7, s8, s9⟩
      go_simp
      with_reducible rfl
    rotate_left
    · simp only [Act.put, List.setIfInBounds_toArray, List.set_cons_zero, List.set_cons_succ, i64_w, i32_w]
      rfl
    refine one_ (i := 2) (N := some 15) #[true, true, true, false] rfl rfl (by kernel_rfl) (by decide) (fun K hK => ?_)
    refine goes_ Try.func17 (by kernel_rfl) rfl #[.slice Ao8 t197.length co8] (by rfl) rfl rfl (by (try simp only [List.map_toArray, List.map_cons, List.map_nil]); first | done | rfl | (simp only [List.length_drop, List.length_take]; rfl)) ?_
    with_reducible refine (headgateref15_All.calls k _ _ t197 t211 t212 t213 t214 t215 t216 t217 t218 t219 t220 _ ?side1 ?side2 A5.out).mono ?_
    (case side1 => repeat (first | exact (Kd.V_reads' HO199.out).2.2 | (with_reducible refine Kd.C_alloc ?_ _) | (with_reducible refine Kd.C_drewN ?_ _) | (with_reducible refine Kd.C_drew ?_)))
    (case side2 => exact (Kd.V_reads' HO199.out).2.1)
    rintro e w14 ⟨rfl, hb⟩
    refine ⟨_, rfl, ?_⟩
    have n0_ := Aside0.mk (Kd.V_below (by (with_reducible repeat (first | apply Kd.V_alloc | apply Kd.V_drewN | apply Kd.V_drew)); exact HO199.out) hb)
    have n1_ := Aside0.mk (blk_below (g := gb210) (o := .cells #[.int .i64 t200, .int .i64 t201, .int .i64 t202, .int .i64 t203, .int .i64 t204, .int .i64 t205, .int .i64 t206, .int .i64 t207, .int .i64 t208, .int .i64 t209] 24 (0, 0)) (by (with_reducible repeat (first | refine blk_drewN ?_ _ | refine blk_drew ?_ | refine blk_alloc ?_ _)); exact BK210.out) hb)
    have n2_ := Aside0.mk (below_step (by repeat (first | (with_reducible first | exact HB.out | apply below_alloc | apply pw_below_drewN | apply below_drew1 | refine below_set ?_ GE210.out) | exact HB.out)) hb)
    clear HO199
    clear BK210
    clear HB
    have HO199 := n0_
    have BK210 := n1_
    have HB := n2_
    clear n0_ n1_ n2_
    (try clear hb)
    (try clear hb2)
    (try clear hk)
    (try clear hi)
    refine hK.out _ _ ⟨(blk_cell BK210.out 0).trans rfl, (blk_cell BK210.out 1).trans rfl, (blk_cell BK210.out 2).trans rfl, (blk_cell BK210.out 3).trans rfl, (blk_cell BK210.out 4).trans rfl, (blk_cell BK210.out 5).trans rfl, (blk_cell BK210.out 6).trans rfl, (blk_cell BK210.out 7).trans rfl, (blk_cell BK210.out 8).trans rfl, (blk_cell BK210.out 9).trans rfl⟩ (fun hHeld => ?_)
    clear hK K
    refine norm_ (a' := ?_) ?_ ?_
    rotate_left
    · show Act.put _ (some 15) _ = _
      simp only [Act.put, List.setIfInBounds_toArray, List.set_cons_zero, List.set_cons_succ, i64_w, i32_w]
      rfl
    refine pure_ (i := 3) (N := some 16) (v := ?_) (a' := ?_) #[true, true, true, true] rfl rfl (by kernel_rfl) (fun _ _ _ h => h) (Or.inl ⟨by rfl, ?_⟩) ?_ ?_
    rotate_left
    · intro w'
      go_simp
      with_reducible rfl
    rotate_left
    · simp only [Act.put, List.setIfInBounds_toArray, List.set_cons_zero, List.set_cons_succ, i64_w, i32_w]
      rfl
    refine done_ (by kernel_rfl) ?_
    try go_wp2
    go_ret
    exact ⟨by first | rfl | (simp [errW_none, errW_some] <;> rfl) | (simp [*, errW_none, errW_some] <;> rfl), by repeat (first | (with_reducible first | exact HB.out | apply below_alloc | apply pw_below_drewN | apply below_drew1 | refine below_set ?_ GE210.out) | exact HB.out)⟩
  · rw [if_neg c6] at H
    have c6b0 : (!(t200 == t211) || (!(t201 == t212) || (!(t202 == t213) || (!(t203 == t214) || ((!(t204 == t215) || (!(t205 == t216) || (!(t206 == t217) || (!(t207 == t218))))) || (!(t208 == t219) || (!(t209 == t220)))))))) = false := by simpa using c6
    clear c6
    by_cases c15 : (wrap64 ((t197.length : Int) + 1)) = 0
    · rw [if_pos c15] at H
      exact absurd H (by simp)
    · rw [if_neg c15] at H
      have c15b0 : ((wrap64 ((t197.length : Int) + 1)) == 0) = false := beq_eq_false_iff_ne.mpr c15
      have c15b1 : ((wrap64 ((t197.length : Int) + 1)) != 0) = true := bne_iff_ne.mpr c15
      obtain ⟨ji16, hji16⟩ : ∃ j_ : Int, (Int.tmod (wrap64 ((wrap64 ((Int.tmod a1 (wrap64 ((t197.length : Int) + 1))) + (t197.length : Int))) + 1)) (wrap64 ((t197.length : Int) + 1))) = j_ := ⟨_, rfl⟩
      replace H : (if 0 ≤ (ji16) then (if (ji16) ≤ (t197.length : Int) then ((fold_All.f k (t197.take ((ji16) : Int).toNat)).bind fun bt226 => (headgatelaw15_FoldRows.l0 k t197 ji16 t200 t201 t202 t203 t204 t205 t206 t207 t208 t209 bt226.1 bt226.2.1 bt226.2.2.1 bt226.2.2.2.1 bt226.2.2.2.2.1 bt226.2.2.2.2.2.1 bt226.2.2.2.2.2.2.1 bt226.2.2.2.2.2.2.2.1 bt226.2.2.2.2.2.2.2.2.1 bt226.2.2.2.2.2.2.2.2.2)) else (none)) else (none)) = some r := by first | (rw [hji16] at H; exact H) | (simp only [hji16] at H ⊢; exact H)
      (try rw [hji16] at A3)
      (try rw [hji16] at A4)
      (try rw [hji16] at A5)
      by_cases c17 : 0 ≤ (ji16)
      · rw [if_pos c17] at H
        have c17b0 := eq_true c17
        have c17b1 : decide (0 ≤ (ji16)) = true := decide_eq_true c17
        clear c17
        by_cases c18 : (ji16) ≤ (t197.length : Int)
        · rw [if_pos c18] at H
          have c18b0 := eq_true c18
          have c18b1 : decide ((ji16) ≤ (t197.length : Int)) = true := decide_eq_true c18
          clear c18
          obtain ⟨y221, hy221⟩ : ∃ y_ : List Int, y_ = (t197.take ((ji16) : Int).toNat) := ⟨_, rfl⟩
          replace H : ((fold_All.f k y221).bind fun bt226 => (headgatelaw15_FoldRows.l0 k t197 ji16 t200 t201 t202 t203 t204 t205 t206 t207 t208 t209 bt226.1 bt226.2.1 bt226.2.2.1 bt226.2.2.2.1 bt226.2.2.2.2.1 bt226.2.2.2.2.2.1 bt226.2.2.2.2.2.2.1 bt226.2.2.2.2.2.2.2.1 bt226.2.2.2.2.2.2.2.2.1 bt226.2.2.2.2.2.2.2.2.2)) = some r := by first | (rw [hy221]; with_reducible exact H) | (have H2_ := (Option.bind_some _ _).symm.trans H; rw [hy221]; with_reducible exact H2_) | (have H2_ := (Option.bind_some _ _).symm.trans H; with_reducible exact H2_) | with_reducible exact H | (rw [hy221]; exact H) | exact H
          have Ny221 := Aside0.mk hy221
          clear hy221
          replace H := Option.bind_eq_some_iff.mp H
          obtain ⟨⟨t226, t227, t228, t229, t230, t231, t232, t233, t234, t235⟩, A190, H⟩ := H
          replace H : (headgatelaw15_FoldRows.l0 k t197 ji16 t200 t201 t202 t203 t204 t205 t206 t207 t208 t209 t226 t227 t228 t229 t230 t231 t232 t233 t234 t235) = some r := H
          have A19 := Aside0.mk A190
          clear A190
          have H' := Aside0.mk H
          clear H
          go_enter Try.func4, Try.ntmps4
          try go_wp2_with (first | ((with_reducible refine gate_callee (f := 15) rfl ?_); refine goesL_ (some 10) rfl rfl Try.func15 (by kernel_rfl) rfl #[.slice A0 l0.length c0] rfl (by (try simp only [List.map_toArray, List.map_cons, List.map_nil]); first | done | rfl | (simp only [List.length_drop, List.length_take]; rfl)) ?_; (with_reducible refine (headgatelaw15_some.calls (fun k_ => k_ < w.heap.size) _ _ l0 t197 _ ?side1 A3.out).mono ?_); (case side1 => exact Kd.V_mk HC0.out (Kd.F_below (Kd.C_F (Kd.heap_int .i64) HR0.out) (by repeat (first | (with_reducible first | exact HB.out | apply below_alloc | apply pw_below_drewN | apply below_drew1) | exact HB.out)))); rintro e w20 ⟨v198, rfl, ho0, hb⟩; refine ⟨_, rfl, ?_⟩; have n0_ := Aside0.mk (Kd.V_lower (Kd.V_mono (ok' := fun k_ => True) ho0 (fun k_ hk_ => trivial)) (below_size (by repeat (first | (with_reducible first | exact HB.out | apply below_alloc | apply pw_below_drewN | apply below_drew1) | exact HB.out)))); have n1_ := Aside0.mk (below_step (by repeat (first | (with_reducible first | exact HB.out | apply below_alloc | apply pw_below_drewN | apply below_drew1) | exact HB.out)) hb); clear HB; have HO199 := n0_; have HB := n1_; clear n0_ n1_; (try clear hb); (try clear hb2); (try clear hk); (try clear hi); (try clear ho0); obtain ⟨Ao21, co21, eo21⟩ := Kd.V_slice HO199.out; subst eo21) | ((with_reducible refine gate_callee (f := 16) rfl ?_); refine goesL_ (some 12) rfl rfl Try.func16 (by kernel_rfl) rfl #[.slice Ao21 t197.length co21] rfl (by (try simp only [List.map_toArray, List.map_cons, List.map_nil]); first | done | rfl | (simp only [List.length_drop, List.length_take]; rfl)) ?_; (with_reducible refine (fold_All.calls k _ _ t197 t200 t201 t202 t203 t204 t205 t206 t207 t208 t209 _ ?side1 ?side2 A4.out).mono ?_); (case side1 => repeat (first | exact (Kd.V_reads' HO199.out).2.2 | (with_reducible refine Kd.C_alloc ?_ _) | (with_reducible refine Kd.C_drewN ?_ _) | (with_reducible refine Kd.C_drew ?_))); (case side2 => exact (Kd.V_reads' HO199.out).2.1); rintro e w22 ⟨rfl, hb⟩; refine ⟨_, rfl, ?_⟩; have n0_ := Aside0.mk (Kd.V_below (by (with_reducible repeat (first | apply Kd.V_alloc | apply Kd.V_drewN | apply Kd.V_drew)); exact HO199.out) hb); have n1_ := Aside0.mk (below_step (by repeat (first | (with_reducible first | exact HB.out | apply below_alloc | apply pw_below_drewN | apply below_drew1) | exact HB.out)) hb); clear HO199; clear HB; have HO199 := n0_; have HB := n1_; clear n0_ n1_; (try clear hb); (try clear hb2); (try clear hk); (try clear hi)) | ((with_reducible refine gate_dst (N := 5) rfl ?_); refine box_event ?hg (N := 5) ?hd (cs := #[.int .i64 0, .int .i64 0, .int .i64 0, .int .i64 0, .int .i64 0, .int .i64 0, .int .i64 0, .int .i64 0, .int .i64 0, .int .i64 0]) (t := 24) ?hr ?_; (case hd => rfl); (case hg => rfl); (case hr => first | (go_simp; done) | (go_simp; rfl)); intro gb210 hg w23 hbox hb; have n0_ := Aside0.mk (Kd.V_below (Kd.V_elderB (by (with_reducible repeat (first | apply Kd.V_alloc | apply Kd.V_drewN | apply Kd.V_drew)); exact HO199.out) gb210 (Nat.le_of_eq hg.symm)) hb); have n1_ := Aside0.mk (below_step (by repeat (first | (with_reducible first | exact HB.out | apply below_alloc | apply pw_below_drewN | apply below_drew1) | exact HB.out)) hb); have n2_ := Aside0.mk (hbox); have n3_ := Aside0.mk ((by rw [hg]; exact (below_size (by repeat (first | (with_reducible first | exact HB.out | apply below_alloc | apply pw_below_drewN | apply below_drew1) | exact HB.out))) : w.heap.size ≤ gb210)); have n4_ := Aside0.mk ((by rw [hg]; exact (below_size (by repeat (first | (with_reducible first | exact HB.out | apply below_alloc | apply pw_below_drewN | apply below_drew1) | exact HB.out))) : w.heap.size ≤ gb210)); clear HO199; clear HB; have HO199 := n0_; have HB := n1_; have BK210 := n2_; have GW210 := n3_; have GE210 := n4_; clear n0_ n1_ n2_ n3_ n4_; clear hb hbox hg; have hcz24_0 : w23.cell? ⟨gb210, 0, none⟩ = some (.int .i64 0) := (blk_cell BK210.out 0).trans rfl; have hcz24_1 : w23.cell? ⟨gb210, 1, none⟩ = some (.int .i64 0) := (blk_cell BK210.out 1).trans rfl; have hcz24_2 : w23.cell? ⟨gb210, 2, none⟩ = some (.int .i64 0) := (blk_cell BK210.out 2).trans rfl; have hcz24_3 : w23.cell? ⟨gb210, 3, none⟩ = some (.int .i64 0) := (blk_cell BK210.out 3).trans rfl; have hcz24_4 : w23.cell? ⟨gb210, 4, none⟩ = some (.int .i64 0) := (blk_cell BK210.out 4).trans rfl; have hcz24_5 : w23.cell? ⟨gb210, 5, none⟩ = some (.int .i64 0) := (blk_cell BK210.out 5).trans rfl; have hcz24_6 : w23.cell? ⟨gb210, 6, none⟩ = some (.int .i64 0) := (blk_cell BK210.out 6).trans rfl; have hcz24_7 : w23.cell? ⟨gb210, 7, none⟩ = some (.int .i64 0) := (blk_cell BK210.out 7).trans rfl; have hcz24_8 : w23.cell? ⟨gb210, 8, none⟩ = some (.int .i64 0) := (blk_cell BK210.out 8).trans rfl; have hcz24_9 : w23.cell? ⟨gb210, 9, none⟩ = some (.int .i64 0) := (blk_cell BK210.out 9).trans rfl; have hfz24_0 := blk_frozen BK210.out 0; have hfz24_1 := blk_frozen BK210.out 1; have hfz24_2 := blk_frozen BK210.out 2; have hfz24_3 := blk_frozen BK210.out 3; have hfz24_4 := blk_frozen BK210.out 4; have hfz24_5 := blk_frozen BK210.out 5; have hfz24_6 := blk_frozen BK210.out 6; have hfz24_7 := blk_frozen BK210.out 7; have hfz24_8 := blk_frozen BK210.out 8; have hfz24_9 := blk_frozen BK210.out 9))
          have n0_ : Aside0 (Kd.V (Kd.int .i64) 3 ((((((((((w23.setCell ⟨gb210, 0, none⟩ (.int .i64 t200)).setCell ⟨gb210, 1, none⟩ (.int .i64 t201)).setCell ⟨gb210, 2, none⟩ (.int .i64 t202)).setCell ⟨gb210, 3, none⟩ (.int .i64 t203)).setCell ⟨gb210, 4, none⟩ (.int .i64 t204)).setCell ⟨gb210, 5, none⟩ (.int .i64 t205)).setCell ⟨gb210, 6, none⟩ (.int .i64 t206)).setCell ⟨gb210, 7, none⟩ (.int .i64 t207)).setCell ⟨gb210, 8, none⟩ (.int .i64 t208)).setCell ⟨gb210, 9, none⟩ (.int .i64 t209)) w.heap.size (fun k_ => k_ ≠ gb210) (.slice Ao21 t197.length co21) t197) := ⟨by (with_reducible repeat (first | apply Kd.V_alloc | apply Kd.V_drewN | apply Kd.V_drew)); exact Kd.V_mono (Kd.V_far (p := ⟨gb210, 9, none⟩) (Kd.V_far (p := ⟨gb210, 8, none⟩) (Kd.V_far (p := ⟨gb210, 7, none⟩) (Kd.V_far (p := ⟨gb210, 6, none⟩) (Kd.V_far (p := ⟨gb210, 5, none⟩) (Kd.V_far (p := ⟨gb210, 4, none⟩) (Kd.V_far (p := ⟨gb210, 3, none⟩) (Kd.V_far (p := ⟨gb210, 2, none⟩) (Kd.V_far (p := ⟨gb210, 1, none⟩) (Kd.V_far (p := ⟨gb210, 0, none⟩) (Kd.V_mono HO199.out (fun k_ hk => (⟨hk, hk.2⟩ : _ ∧ k_ ≠ gb210))) (fun _ hk => hk.2) (.int .i64 t200)) (fun _ hk => hk.2) (.int .i64 t201)) (fun _ hk => hk.2) (.int .i64 t202)) (fun _ hk => hk.2) (.int .i64 t203)) (fun _ hk => hk.2) (.int .i64 t204)) (fun _ hk => hk.2) (.int .i64 t205)) (fun _ hk => hk.2) (.int .i64 t206)) (fun _ hk => hk.2) (.int .i64 t207)) (fun _ hk => hk.2) (.int .i64 t208)) (fun _ hk => hk.2) (.int .i64 t209)) (fun _ hk => hk.1.2)⟩
          have n1_ : Aside0 (((((((((((w23.setCell ⟨gb210, 0, none⟩ (.int .i64 t200)).setCell ⟨gb210, 1, none⟩ (.int .i64 t201)).setCell ⟨gb210, 2, none⟩ (.int .i64 t202)).setCell ⟨gb210, 3, none⟩ (.int .i64 t203)).setCell ⟨gb210, 4, none⟩ (.int .i64 t204)).setCell ⟨gb210, 5, none⟩ (.int .i64 t205)).setCell ⟨gb210, 6, none⟩ (.int .i64 t206)).setCell ⟨gb210, 7, none⟩ (.int .i64 t207)).setCell ⟨gb210, 8, none⟩ (.int .i64 t208)).setCell ⟨gb210, 9, none⟩ (.int .i64 t209)).heap[gb210]? = some (.cells #[.int .i64 t200, .int .i64 t201, .int .i64 t202, .int .i64 t203, .int .i64 t204, .int .i64 t205, .int .i64 t206, .int .i64 t207, .int .i64 t208, .int .i64 t209] 24 (0, 0))) := ⟨by (with_reducible repeat (first | refine blk_drewN ?_ _ | refine blk_drew ?_ | refine blk_alloc ?_ _)); refine blk_put (cs := #[.int .i64 t200, .int .i64 t201, .int .i64 t202, .int .i64 t203, .int .i64 t204, .int .i64 t205, .int .i64 t206, .int .i64 t207, .int .i64 t208, .int .i64 0]) ?_ 9 _ rfl; (with_reducible repeat (first | refine blk_drewN ?_ _ | refine blk_drew ?_ | refine blk_alloc ?_ _)); refine blk_put (cs := #[.int .i64 t200, .int .i64 t201, .int .i64 t202, .int .i64 t203, .int .i64 t204, .int .i64 t205, .int .i64 t206, .int .i64 t207, .int .i64 0, .int .i64 0]) ?_ 8 _ rfl; (with_reducible repeat (first | refine blk_drewN ?_ _ | refine blk_drew ?_ | refine blk_alloc ?_ _)); refine blk_put (cs := #[.int .i64 t200, .int .i64 t201, .int .i64 t202, .int .i64 t203, .int .i64 t204, .int .i64 t205, .int .i64 t206, .int .i64 0, .int .i64 0, .int .i64 0]) ?_ 7 _ rfl; (with_reducible repeat (first | refine blk_drewN ?_ _ | refine blk_drew ?_ | refine blk_alloc ?_ _)); refine blk_put (cs := #[.int .i64 t200, .int .i64 t201, .int .i64 t202, .int .i64 t203, .int .i64 t204, .int .i64 t205, .int .i64 0, .int .i64 0, .int .i64 0, .int .i64 0]) ?_ 6 _ rfl; (with_reducible repeat (first | refine blk_drewN ?_ _ | refine blk_drew ?_ | refine blk_alloc ?_ _)); refine blk_put (cs := #[.int .i64 t200, .int .i64 t201, .int .i64 t202, .int .i64 t203, .int .i64 t204, .int .i64 0, .int .i64 0, .int .i64 0, .int .i64 0, .int .i64 0]) ?_ 5 _ rfl; (with_reducible repeat (first | refine blk_drewN ?_ _ | refine blk_drew ?_ | refine blk_alloc ?_ _)); refine blk_put (cs := #[.int .i64 t200, .int .i64 t201, .int .i64 t202, .int .i64 t203, .int .i64 0, .int .i64 0, .int .i64 0, .int .i64 0, .int .i64 0, .int .i64 0]) ?_ 4 _ rfl; (with_reducible repeat (first | refine blk_drewN ?_ _ | refine blk_drew ?_ | refine blk_alloc ?_ _)); refine blk_put (cs := #[.int .i64 t200, .int .i64 t201, .int .i64 t202, .int .i64 0, .int .i64 0, .int .i64 0, .int .i64 0, .int .i64 0, .int .i64 0, .int .i64 0]) ?_ 3 _ rfl; (with_reducible repeat (first | refine blk_drewN ?_ _ | refine blk_drew ?_ | refine blk_alloc ?_ _)); refine blk_put (cs := #[.int .i64 t200, .int .i64 t201, .int .i64 0, .int .i64 0, .int .i64 0, .int .i64 0, .int .i64 0, .int .i64 0, .int .i64 0, .int .i64 0]) ?_ 2 _ rfl; (with_reducible repeat (first | refine blk_drewN ?_ _ | refine blk_drew ?_ | refine blk_alloc ?_ _)); refine blk_put (cs := #[.int .i64 t200, .int .i64 0, .int .i64 0, .int .i64 0, .int .i64 0, .int .i64 0, .int .i64 0, .int .i64 0, .int .i64 0, .int .i64 0]) ?_ 1 _ rfl; (with_reducible repeat (first | refine blk_drewN ?_ _ | refine blk_drew ?_ | refine blk_alloc ?_ _)); refine blk_put (cs := #[.int .i64 0, .int .i64 0, .int .i64 0, .int .i64 0, .int .i64 0, .int .i64 0, .int .i64 0, .int .i64 0, .int .i64 0, .int .i64 0]) ?_ 0 _ rfl; (with_reducible repeat (first | refine blk_drewN ?_ _ | refine blk_drew ?_ | refine blk_alloc ?_ _)); exact BK210.out⟩
          have n2_ : Aside0 (Below w.heap.size w ((((((((((w23.setCell ⟨gb210, 0, none⟩ (.int .i64 t200)).setCell ⟨gb210, 1, none⟩ (.int .i64 t201)).setCell ⟨gb210, 2, none⟩ (.int .i64 t202)).setCell ⟨gb210, 3, none⟩ (.int .i64 t203)).setCell ⟨gb210, 4, none⟩ (.int .i64 t204)).setCell ⟨gb210, 5, none⟩ (.int .i64 t205)).setCell ⟨gb210, 6, none⟩ (.int .i64 t206)).setCell ⟨gb210, 7, none⟩ (.int .i64 t207)).setCell ⟨gb210, 8, none⟩ (.int .i64 t208)).setCell ⟨gb210, 9, none⟩ (.int .i64 t209))) := ⟨by repeat (first | (with_reducible first | exact HB.out | apply below_alloc | apply pw_below_drewN | apply below_drew1 | refine below_set ?_ GE210.out) | exact HB.out)⟩
          (try clear HO199)
          (try clear BK210)
          (try clear HB)
          generalize ((((((((((w23.setCell ⟨gb210, 0, none⟩ (.int .i64 t200)).setCell ⟨gb210, 1, none⟩ (.int .i64 t201)).setCell ⟨gb210, 2, none⟩ (.int .i64 t202)).setCell ⟨gb210, 3, none⟩ (.int .i64 t203)).setCell ⟨gb210, 4, none⟩ (.int .i64 t204)).setCell ⟨gb210, 5, none⟩ (.int .i64 t205)).setCell ⟨gb210, 6, none⟩ (.int .i64 t206)).setCell ⟨gb210, 7, none⟩ (.int .i64 t207)).setCell ⟨gb210, 8, none⟩ (.int .i64 t208)).setCell ⟨gb210, 9, none⟩ (.int .i64 t209)) = w25 at n0_ n1_ n2_ ⊢
          have HO199 := n0_
          have BK210 := n1_
          have HB := n2_
          clear n0_ n1_ n2_
          have n0_ := Aside0.mk (Kd.V_drew HO199.out)
          have n1_ := Aside0.mk (blk_drew BK210.out)
          have n2_ := Aside0.mk (below_drew1 HB.out)
          clear HO199
          clear BK210
          clear HB
          have HO199 := n0_
          have BK210 := n1_
          have HB := n2_
          clear n0_ n1_ n2_
          refine start_ (n := 4) (S := fun w' => w'.cell? ⟨gb210, 0, none⟩ = some (.int .i64 t200) ∧ w'.cell? ⟨gb210, 1, none⟩ = some (.int .i64 t201) ∧ w'.cell? ⟨gb210, 2, none⟩ = some (.int .i64 t202) ∧ w'.cell? ⟨gb210, 3, none⟩ = some (.int .i64 t203) ∧ w'.cell? ⟨gb210, 4, none⟩ = some (.int .i64 t204) ∧ w'.cell? ⟨gb210, 5, none⟩ = some (.int .i64 t205) ∧ w'.cell? ⟨gb210, 6, none⟩ = some (.int .i64 t206) ∧ w'.cell? ⟨gb210, 7, none⟩ = some (.int .i64 t207) ∧ w'.cell? ⟨gb210, 8, none⟩ = some (.int .i64 t208) ∧ w'.cell? ⟨gb210, 9, none⟩ = some (.int .i64 t209)) (ds := []) #[false, false, false, false] (by kernel_rfl) rfl rfl ⟨(blk_cell BK210.out 0).trans rfl, (blk_cell BK210.out 1).trans rfl, (blk_cell BK210.out 2).trans rfl, (blk_cell BK210.out 3).trans rfl, (blk_cell BK210.out 4).trans rfl, (blk_cell BK210.out 5).trans rfl, (blk_cell BK210.out 6).trans rfl, (blk_cell BK210.out 7).trans rfl, (blk_cell BK210.out 8).trans rfl, (blk_cell BK210.out 9).trans rfl⟩ (fun hHeld => ?_)
          generalize w25.drew = w26 at HO199 BK210 HB hHeld ⊢
          refine pure_ (i := 1) (N := some 14) (v := ?_) (a' := ?_) #[false, true, false, false] rfl rfl (by kernel_rfl) (fun _ _ _ h => h) (Or.inl ⟨by rfl, ?_⟩) ?_ ?_
          rotate_left
          · intro w'
            go_simp
            with_reducible rfl
          rotate_left
          · simp only [Act.put, List.setIfInBounds_toArray, List.set_cons_zero, List.set_cons_succ, i64_w, i32_w]
            rfl
          refine take_ (i := 0) (N := some 13) (v := ?_) (a' := ?_) #[true, true, false, false] rfl rfl (by kernel_rfl) (fun _ _ _ h => h) (Or.inl ⟨by rfl, ?_⟩) hHeld ?_ ?_
          rotate_left
          · rintro w' ⟨s0, s1, s2, s3, s4, s5, s6, s7, s8, s9⟩
            go_simp
            with_reducible rfl
          rotate_left
          · simp only [Act.put, List.setIfInBounds_toArray, List.set_cons_zero, List.set_cons_succ, i64_w, i32_w]
            rfl
          refine one_ (i := 2) (N := some 15) #[true, true, true, false] rfl rfl (by kernel_rfl) (by decide) (fun K hK => ?_)
          refine goes_ Try.func17 (by kernel_rfl) rfl #[.slice Ao21 t197.length co21] (by rfl) rfl rfl (by (try simp only [List.map_toArray, List.map_cons, List.map_nil]); first | done | rfl | (simp only [List.length_drop, List.length_take]; rfl)) ?_
          with_reducible refine (headgateref15_All.calls k _ _ t197 t211 t212 t213 t214 t215 t216 t217 t218 t219 t220 _ ?side1 ?side2 A5.out).mono ?_
          (case side1 => repeat (first | exact (Kd.V_reads' HO199.out).2.2 | (with_reducible refine Kd.C_alloc ?_ _) | (with_reducible refine Kd.C_drewN ?_ _) | (with_reducible refine Kd.C_drew ?_)))
          (case side2 => exact (Kd.V_reads' HO199.out).2.1)
          rintro e w27 ⟨rfl, hb⟩
          refine ⟨_, rfl, ?_⟩
          have n0_ := Aside0.mk (Kd.V_below (by (with_reducible repeat (first | apply Kd.V_alloc | apply Kd.V_drewN | apply Kd.V_drew)); exact HO199.out) hb)
          have n1_ := Aside0.mk (blk_below (g := gb210) (o := .cells #[.int .i64 t200, .int .i64 t201, .int .i64 t202, .int .i64 t203, .int .i64 t204, .int .i64 t205, .int .i64 t206, .int .i64 t207, .int .i64 t208, .int .i64 t209] 24 (0, 0)) (by (with_reducible repeat (first | refine blk_drewN ?_ _ | refine blk_drew ?_ | refine blk_alloc ?_ _)); exact BK210.out) hb)
          have n2_ := Aside0.mk (below_step (by repeat (first | (with_reducible first | exact HB.out | apply below_alloc | apply pw_below_drewN | apply below_drew1 | refine below_set ?_ GE210.out) | exact HB.out)) hb)
          clear HO199
          clear BK210
          clear HB
          have HO199 := n0_
          have BK210 := n1_
          have HB := n2_
          clear n0_ n1_ n2_
          (try clear hb)
          (try clear hb2)
          (try clear hk)
          (try clear hi)
          refine hK.out _ _ ⟨(blk_cell BK210.out 0).trans rfl, (blk_cell BK210.out 1).trans rfl, (blk_cell BK210.out 2).trans rfl, (blk_cell BK210.out 3).trans rfl, (blk_cell BK210.out 4).trans rfl, (blk_cell BK210.out 5).trans rfl, (blk_cell BK210.out 6).trans rfl, (blk_cell BK210.out 7).trans rfl, (blk_cell BK210.out 8).trans rfl, (blk_cell BK210.out 9).trans rfl⟩ (fun hHeld => ?_)
          clear hK K
          refine norm_ (a' := ?_) ?_ ?_
          rotate_left
          · show Act.put _ (some 15) _ = _
            simp only [Act.put, List.setIfInBounds_toArray, List.set_cons_zero, List.set_cons_succ, i64_w, i32_w]
            rfl
          refine pure_ (i := 3) (N := some 16) (v := ?_) (a' := ?_) #[true, true, true, true] rfl rfl (by kernel_rfl) (fun _ _ _ h => h) (Or.inl ⟨by rfl, ?_⟩) ?_ ?_
          rotate_left
          · intro w'
            go_simp
            with_reducible rfl
          rotate_left
          · simp only [Act.put, List.setIfInBounds_toArray, List.set_cons_zero, List.set_cons_succ, i64_w, i32_w]
            rfl
          refine done_ (by kernel_rfl) ?_
          have q28 : ((ji16) : Int) ≤ ((t197.length : Int) : Int) := of_decide_eq_true (by first | (with_reducible assumption) | assumption)
          obtain ⟨i028, hi028, _, hsz28, _⟩ := info_parts info3
          have hroom28 : t197.length ≤ co21 := (Kd.V_reads' HO199.out).2.1
          have hC28 : Kd.F (Kd.int .i64) _ _ Ao21 t197.length t197 := (Kd.V_at (base := w.heap.size) HO199.out).2.2
          have hcut28 := cut_to (P := Try.prog) 29 3 .i64 Try.underlying29 hi028 Ao21 t197.length co21 (ji16) (of_decide_eq_true (by first | (with_reducible assumption) | assumption)) q28 hroom28
          have hr28 := Kd.F_take (m := ((ji16) : Int).toNat) hC28 (by omega)
          have hy28 : y221.length = ((ji16) : Int).toNat := (by rw [Ny221.out, List.length_take]; omega)
          rw [← Ny221.out] at hr28
          rw [← hy28] at hcut28
          have HO225 := Aside0.mk (show Kd.V (Kd.int .i64) 3 _ w.heap.size _ (.slice Ao21 y221.length co21) y221 from Kd.V_mk (by omega) hr28)
          have HC225 := Aside0.mk (show y221.length ≤ co21 from by omega)
          clear hr28 hC28 hroom28 hi028 hsz28
          have KY28 := Aside0.mk hy28
          clear hy28
          replace q28 := eq_true q28
          try go_wp2_with (first | ((with_reducible refine gate_callee (f := 16) rfl ?_); refine goesL_ (some 33) rfl rfl Try.func16 (by kernel_rfl) rfl #[.slice Ao21 y221.length co21] rfl (by (try simp only [List.map_toArray, List.map_cons, List.map_nil]); first | done | rfl | (simp only [List.length_drop, List.length_take]; rfl)) ?_; (with_reducible refine (fold_All.calls k _ _ y221 t226 t227 t228 t229 t230 t231 t232 t233 t234 t235 _ ?side1 ?side2 A19.out).mono ?_); (case side1 => repeat (first | exact (Kd.V_reads' HO225.out).2.2 | (with_reducible refine Kd.C_alloc ?_ _) | (with_reducible refine Kd.C_drewN ?_ _) | (with_reducible refine Kd.C_drew ?_))); (case side2 => exact (Kd.V_reads' HO225.out).2.1); rintro e w29 ⟨rfl, hb⟩; refine ⟨_, rfl, ?_⟩; have n0_ := Aside0.mk (Kd.V_below (by (with_reducible repeat (first | apply Kd.V_alloc | apply Kd.V_drewN | apply Kd.V_drew)); exact HO199.out) hb); have n1_ := Aside0.mk (Kd.V_below (by (with_reducible repeat (first | apply Kd.V_alloc | apply Kd.V_drewN | apply Kd.V_drew)); exact HO225.out) hb); have n2_ := Aside0.mk (blk_below (g := gb210) (o := .cells #[.int .i64 t200, .int .i64 t201, .int .i64 t202, .int .i64 t203, .int .i64 t204, .int .i64 t205, .int .i64 t206, .int .i64 t207, .int .i64 t208, .int .i64 t209] 24 (0, 0)) (by (with_reducible repeat (first | refine blk_drewN ?_ _ | refine blk_drew ?_ | refine blk_alloc ?_ _)); exact BK210.out) hb); have n3_ := Aside0.mk (below_step (by repeat (first | (with_reducible first | exact HB.out | apply below_alloc | apply pw_below_drewN | apply below_drew1 | refine below_set ?_ GE210.out) | exact HB.out)) hb); clear HO199; clear HO225; clear BK210; clear HB; have HO199 := n0_; have HO225 := n1_; have BK210 := n2_; have HB := n3_; clear n0_ n1_ n2_ n3_; (try clear hb); (try clear hb2); (try clear hk); (try clear hi)) | ((with_reducible refine gate_dst (N := 7) rfl ?_); refine box_event ?hg (N := 7) ?hd (cs := #[.int .i64 0, .int .i64 0, .int .i64 0, .int .i64 0, .int .i64 0, .int .i64 0, .int .i64 0, .int .i64 0, .int .i64 0, .int .i64 0]) (t := 24) ?hr ?_; (case hd => rfl); (case hg => rfl); (case hr => first | (go_simp; done) | (go_simp; rfl)); intro gb236 hg w30 hbox hb; have n0_ := Aside0.mk (Kd.V_below (Kd.V_elderB (by (with_reducible repeat (first | apply Kd.V_alloc | apply Kd.V_drewN | apply Kd.V_drew)); exact HO199.out) gb236 (Nat.le_of_eq hg.symm)) hb); have n1_ := Aside0.mk (Kd.V_below (Kd.V_elderB (by (with_reducible repeat (first | apply Kd.V_alloc | apply Kd.V_drewN | apply Kd.V_drew)); exact HO225.out) gb236 (Nat.le_of_eq hg.symm)) hb); have n2_ := Aside0.mk (blk_below (g := gb210) (o := .cells #[.int .i64 t200, .int .i64 t201, .int .i64 t202, .int .i64 t203, .int .i64 t204, .int .i64 t205, .int .i64 t206, .int .i64 t207, .int .i64 t208, .int .i64 t209] 24 (0, 0)) (by (with_reducible repeat (first | refine blk_drewN ?_ _ | refine blk_drew ?_ | refine blk_alloc ?_ _)); exact BK210.out) hb); have n3_ := Aside0.mk (below_step (by repeat (first | (with_reducible first | exact HB.out | apply below_alloc | apply pw_below_drewN | apply below_drew1 | refine below_set ?_ GE210.out) | exact HB.out)) hb); have n4_ := Aside0.mk (hbox); have n5_ := Aside0.mk ((by rw [hg]; exact (below_size (by repeat (first | (with_reducible first | exact HB.out | apply below_alloc | apply pw_below_drewN | apply below_drew1 | refine below_set ?_ GE210.out) | exact HB.out))) : w.heap.size ≤ gb236)); have n6_ := Aside0.mk ((by rw [hg]; exact (below_size (by repeat (first | (with_reducible first | exact HB.out | apply below_alloc | apply pw_below_drewN | apply below_drew1 | refine below_set ?_ GE210.out) | exact HB.out))) : w.heap.size ≤ gb236)); have n7_ := Aside0.mk ((by rw [hg]; exact Nat.ne_of_lt (blk_lt (g := gb210) (o := .cells #[.int .i64 t200, .int .i64 t201, .int .i64 t202, .int .i64 t203, .int .i64 t204, .int .i64 t205, .int .i64 t206, .int .i64 t207, .int .i64 t208, .int .i64 t209] 24 (0, 0)) (by (with_reducible repeat (first | refine blk_drewN ?_ _ | refine blk_drew ?_ | refine blk_alloc ?_ _)); exact BK210.out)) : gb210 ≠ gb236)); have n8_ := Aside0.mk ((by rw [hg]; exact Nat.ne_of_gt (blk_lt (g := gb210) (o := .cells #[.int .i64 t200, .int .i64 t201, .int .i64 t202, .int .i64 t203, .int .i64 t204, .int .i64 t205, .int .i64 t206, .int .i64 t207, .int .i64 t208, .int .i64 t209] 24 (0, 0)) (by (with_reducible repeat (first | refine blk_drewN ?_ _ | refine blk_drew ?_ | refine blk_alloc ?_ _)); exact BK210.out)) : gb236 ≠ gb210)); clear HO199; clear HO225; clear BK210; clear HB; have HO199 := n0_; have HO225 := n1_; have BK210 := n2_; have HB := n3_; have BK236 := n4_; have GW236 := n5_; have GE236 := n6_; have NB210_236 := n7_; have NB236_210 := n8_; clear n0_ n1_ n2_ n3_ n4_ n5_ n6_ n7_ n8_; clear hb hbox hg; have hnb31 := NB236_210.out; have hnc31 := NB210_236.out; have hcz32_0 : w30.cell? ⟨gb236, 0, none⟩ = some (.int .i64 0) := (blk_cell BK236.out 0).trans rfl; have hcz32_1 : w30.cell? ⟨gb236, 1, none⟩ = some (.int .i64 0) := (blk_cell BK236.out 1).trans rfl; have hcz32_2 : w30.cell? ⟨gb236, 2, none⟩ = some (.int .i64 0) := (blk_cell BK236.out 2).trans rfl; have hcz32_3 : w30.cell? ⟨gb236, 3, none⟩ = some (.int .i64 0) := (blk_cell BK236.out 3).trans rfl; have hcz32_4 : w30.cell? ⟨gb236, 4, none⟩ = some (.int .i64 0) := (blk_cell BK236.out 4).trans rfl; have hcz32_5 : w30.cell? ⟨gb236, 5, none⟩ = some (.int .i64 0) := (blk_cell BK236.out 5).trans rfl; have hcz32_6 : w30.cell? ⟨gb236, 6, none⟩ = some (.int .i64 0) := (blk_cell BK236.out 6).trans rfl; have hcz32_7 : w30.cell? ⟨gb236, 7, none⟩ = some (.int .i64 0) := (blk_cell BK236.out 7).trans rfl; have hcz32_8 : w30.cell? ⟨gb236, 8, none⟩ = some (.int .i64 0) := (blk_cell BK236.out 8).trans rfl; have hcz32_9 : w30.cell? ⟨gb236, 9, none⟩ = some (.int .i64 0) := (blk_cell BK236.out 9).trans rfl; have hfz32_0 := blk_frozen BK236.out 0; have hfz32_1 := blk_frozen BK236.out 1; have hfz32_2 := blk_frozen BK236.out 2; have hfz32_3 := blk_frozen BK236.out 3; have hfz32_4 := blk_frozen BK236.out 4; have hfz32_5 := blk_frozen BK236.out 5; have hfz32_6 := blk_frozen BK236.out 6; have hfz32_7 := blk_frozen BK236.out 7; have hfz32_8 := blk_frozen BK236.out 8; have hfz32_9 := blk_frozen BK236.out 9))
          go_loopg [8] k (fun kq v8 w' => ∃ (x8_1 : Int) (x237000_1 : Int) (x237001_1 : Int) (x237002_1 : Int) (x237003_1 : Int) (x237004_1 : Int) (x237005_1 : Int) (x237006_1 : Int) (x237007_1 : Int) (x237008_1 : Int) (x237009_1 : Int), v8 = .int .i64 x8_1 ∧ Aside0 (headgatelaw15_FoldRows.l0 kq t197 x8_1 t200 t201 t202 t203 t204 t205 t206 t207 t208 t209 x237000_1 x237001_1 x237002_1 x237003_1 x237004_1 x237005_1 x237006_1 x237007_1 x237008_1 x237009_1 = some r) ∧ Aside0 (kq ≤ k) ∧ Aside0 (Kd.V (Kd.int .i64) 3 w' w.heap.size (fun k_ => k_ ≠ gb210 ∧ k_ ≠ gb236) (.slice Ao21 t197.length co21) t197) ∧ Aside0 (w'.heap[gb210]? = some (.cells #[.int .i64 t200, .int .i64 t201, .int .i64 t202, .int .i64 t203, .int .i64 t204, .int .i64 t205, .int .i64 t206, .int .i64 t207, .int .i64 t208, .int .i64 t209] 24 (0, 0))) ∧ Aside0 (w'.heap[gb236]? = some (.cells #[.int .i64 x237000_1, .int .i64 x237001_1, .int .i64 x237002_1, .int .i64 x237003_1, .int .i64 x237004_1, .int .i64 x237005_1, .int .i64 x237006_1, .int .i64 x237007_1, .int .i64 x237008_1, .int .i64 x237009_1] 24 (0, 0))) ∧ Aside0 (Below w.heap.size w w'))
          case atStart => exact ⟨(ji16), (t226), (t227), (t228), (t229), (t230), (t231), (t232), (t233), (t234), (t235), (by first | rfl | (simp; done) | (simp only [← hji16] <;> (first | rfl | simp)) | (simp [*]; done)), H', ⟨Nat.le_refl _⟩, ⟨by (with_reducible repeat (first | apply Kd.V_alloc | apply Kd.V_drewN | apply Kd.V_drew)); exact Kd.V_mono (Kd.V_far (p := ⟨gb236, 9, none⟩) (Kd.V_far (p := ⟨gb236, 8, none⟩) (Kd.V_far (p := ⟨gb236, 7, none⟩) (Kd.V_far (p := ⟨gb236, 6, none⟩) (Kd.V_far (p := ⟨gb236, 5, none⟩) (Kd.V_far (p := ⟨gb236, 4, none⟩) (Kd.V_far (p := ⟨gb236, 3, none⟩) (Kd.V_far (p := ⟨gb236, 2, none⟩) (Kd.V_far (p := ⟨gb236, 1, none⟩) (Kd.V_far (p := ⟨gb236, 0, none⟩) (Kd.V_mono HO199.out (fun k_ hk => (⟨hk, hk.2⟩ : _ ∧ k_ ≠ gb236))) (fun _ hk => hk.2) (.int .i64 t226)) (fun _ hk => hk.2) (.int .i64 t227)) (fun _ hk => hk.2) (.int .i64 t228)) (fun _ hk => hk.2) (.int .i64 t229)) (fun _ hk => hk.2) (.int .i64 t230)) (fun _ hk => hk.2) (.int .i64 t231)) (fun _ hk => hk.2) (.int .i64 t232)) (fun _ hk => hk.2) (.int .i64 t233)) (fun _ hk => hk.2) (.int .i64 t234)) (fun _ hk => hk.2) (.int .i64 t235)) (fun _ hk => ⟨hk.1.1, hk.1.2⟩)⟩, ⟨by (with_reducible repeat (first | refine blk_drewN ?_ _ | refine blk_drew ?_ | refine blk_alloc ?_ _)); refine blk_far ?_ NB210_236.out _; (with_reducible repeat (first | refine blk_drewN ?_ _ | refine blk_drew ?_ | refine blk_alloc ?_ _)); refine blk_far ?_ NB210_236.out _; (with_reducible repeat (first | refine blk_drewN ?_ _ | refine blk_drew ?_ | refine blk_alloc ?_ _)); refine blk_far ?_ NB210_236.out _; (with_reducible repeat (first | refine blk_drewN ?_ _ | refine blk_drew ?_ | refine blk_alloc ?_ _)); refine blk_far ?_ NB210_236.out _; (with_reducible repeat (first | refine blk_drewN ?_ _ | refine blk_drew ?_ | refine blk_alloc ?_ _)); refine blk_far ?_ NB210_236.out _; (with_reducible repeat (first | refine blk_drewN ?_ _ | refine blk_drew ?_ | refine blk_alloc ?_ _)); refine blk_far ?_ NB210_236.out _; (with_reducible repeat (first | refine blk_drewN ?_ _ | refine blk_drew ?_ | refine blk_alloc ?_ _)); refine blk_far ?_ NB210_236.out _; (with_reducible repeat (first | refine blk_drewN ?_ _ | refine blk_drew ?_ | refine blk_alloc ?_ _)); refine blk_far ?_ NB210_236.out _; (with_reducible repeat (first | refine blk_drewN ?_ _ | refine blk_drew ?_ | refine blk_alloc ?_ _)); refine blk_far ?_ NB210_236.out _; (with_reducible repeat (first | refine blk_drewN ?_ _ | refine blk_drew ?_ | refine blk_alloc ?_ _)); refine blk_far ?_ NB210_236.out _; (with_reducible repeat (first | refine blk_drewN ?_ _ | refine blk_drew ?_ | refine blk_alloc ?_ _)); exact BK210.out⟩, ⟨by (with_reducible repeat (first | refine blk_drewN ?_ _ | refine blk_drew ?_ | refine blk_alloc ?_ _)); refine blk_put (cs := #[.int .i64 t226, .int .i64 t227, .int .i64 t228, .int .i64 t229, .int .i64 t230, .int .i64 t231, .int .i64 t232, .int .i64 t233, .int .i64 t234, .int .i64 0]) ?_ 9 _ rfl; (with_reducible repeat (first | refine blk_drewN ?_ _ | refine blk_drew ?_ | refine blk_alloc ?_ _)); refine blk_put (cs := #[.int .i64 t226, .int .i64 t227, .int .i64 t228, .int .i64 t229, .int .i64 t230, .int .i64 t231, .int .i64 t232, .int .i64 t233, .int .i64 0, .int .i64 0]) ?_ 8 _ rfl; (with_reducible repeat (first | refine blk_drewN ?_ _ | refine blk_drew ?_ | refine blk_alloc ?_ _)); refine blk_put (cs := #[.int .i64 t226, .int .i64 t227, .int .i64 t228, .int .i64 t229, .int .i64 t230, .int .i64 t231, .int .i64 t232, .int .i64 0, .int .i64 0, .int .i64 0]) ?_ 7 _ rfl; (with_reducible repeat (first | refine blk_drewN ?_ _ | refine blk_drew ?_ | refine blk_alloc ?_ _)); refine blk_put (cs := #[.int .i64 t226, .int .i64 t227, .int .i64 t228, .int .i64 t229, .int .i64 t230, .int .i64 t231, .int .i64 0, .int .i64 0, .int .i64 0, .int .i64 0]) ?_ 6 _ rfl; (with_reducible repeat (first | refine blk_drewN ?_ _ | refine blk_drew ?_ | refine blk_alloc ?_ _)); refine blk_put (cs := #[.int .i64 t226, .int .i64 t227, .int .i64 t228, .int .i64 t229, .int .i64 t230, .int .i64 0, .int .i64 0, .int .i64 0, .int .i64 0, .int .i64 0]) ?_ 5 _ rfl; (with_reducible repeat (first | refine blk_drewN ?_ _ | refine blk_drew ?_ | refine blk_alloc ?_ _)); refine blk_put (cs := #[.int .i64 t226, .int .i64 t227, .int .i64 t228, .int .i64 t229, .int .i64 0, .int .i64 0, .int .i64 0, .int .i64 0, .int .i64 0, .int .i64 0]) ?_ 4 _ rfl; (with_reducible repeat (first | refine blk_drewN ?_ _ | refine blk_drew ?_ | refine blk_alloc ?_ _)); refine blk_put (cs := #[.int .i64 t226, .int .i64 t227, .int .i64 t228, .int .i64 0, .int .i64 0, .int .i64 0, .int .i64 0, .int .i64 0, .int .i64 0, .int .i64 0]) ?_ 3 _ rfl; (with_reducible repeat (first | refine blk_drewN ?_ _ | refine blk_drew ?_ | refine blk_alloc ?_ _)); refine blk_put (cs := #[.int .i64 t226, .int .i64 t227, .int .i64 0, .int .i64 0, .int .i64 0, .int .i64 0, .int .i64 0, .int .i64 0, .int .i64 0, .int .i64 0]) ?_ 2 _ rfl; (with_reducible repeat (first | refine blk_drewN ?_ _ | refine blk_drew ?_ | refine blk_alloc ?_ _)); refine blk_put (cs := #[.int .i64 t226, .int .i64 0, .int .i64 0, .int .i64 0, .int .i64 0, .int .i64 0, .int .i64 0, .int .i64 0, .int .i64 0, .int .i64 0]) ?_ 1 _ rfl; (with_reducible repeat (first | refine blk_drewN ?_ _ | refine blk_drew ?_ | refine blk_alloc ?_ _)); refine blk_put (cs := #[.int .i64 0, .int .i64 0, .int .i64 0, .int .i64 0, .int .i64 0, .int .i64 0, .int .i64 0, .int .i64 0, .int .i64 0, .int .i64 0]) ?_ 0 _ rfl; (with_reducible repeat (first | refine blk_drewN ?_ _ | refine blk_drew ?_ | refine blk_alloc ?_ _)); exact BK236.out⟩, ⟨by repeat (first | (with_reducible first | exact HB.out | apply below_alloc | apply pw_below_drewN | apply below_drew1 | refine below_set ?_ GE210.out | refine below_set ?_ GE236.out) | exact HB.out)⟩⟩
          case round =>
            clear H'
            try clear c1
            try clear p2
            try clear q2
            try clear c3
            try clear c4
            try clear c6
            try clear c6b0
            try clear p6
            try clear c15
            try clear c15b0
            try clear c15b1
            try clear c16
            try clear c17
            try clear c17b0
            try clear c17b1
            try clear c18
            try clear c18b0
            try clear c18b1
            try clear q28
            try clear c31
            try clear hcz11_0
            try clear hcz11_1
            try clear hcz11_2
            try clear hcz11_3
            try clear hcz11_4
            try clear hcz11_5
            try clear hcz11_6
            try clear hcz11_7
            try clear hcz11_8
            try clear hcz11_9
            try clear hcz24_0
            try clear hcz24_1
            try clear hcz24_2
            try clear hcz24_3
            try clear hcz24_4
            try clear hcz24_5
            try clear hcz24_6
            try clear hcz24_7
            try clear hcz24_8
            try clear hcz24_9
            try clear hcz32_0
            try clear hcz32_1
            try clear hcz32_2
            try clear hcz32_3
            try clear hcz32_4
            try clear hcz32_5
            try clear hcz32_6
            try clear hcz32_7
            try clear hcz32_8
            try clear hcz32_9
            try clear hfz11_0
            try clear hfz11_1
            try clear hfz11_2
            try clear hfz11_3
            try clear hfz11_4
            try clear hfz11_5
            try clear hfz11_6
            try clear hfz11_7
            try clear hfz11_8
            try clear hfz11_9
            try clear hfz24_0
            try clear hfz24_1
            try clear hfz24_2
            try clear hfz24_3
            try clear hfz24_4
            try clear hfz24_5
            try clear hfz24_6
            try clear hfz24_7
            try clear hfz24_8
            try clear hfz24_9
            try clear hfz32_0
            try clear hfz32_1
            try clear hfz32_2
            try clear hfz32_3
            try clear hfz32_4
            try clear hfz32_5
            try clear hfz32_6
            try clear hfz32_7
            try clear hfz32_8
            try clear hfz32_9
            try clear q28
            obtain ⟨x8_1, x237000_1, x237001_1, x237002_1, x237003_1, x237004_1, x237005_1, x237006_1, x237007_1, x237008_1, x237009_1, rfl, HA, HK1, HO_0, BK210, BK236, HB⟩ := hrel
            cases gk with
            | zero => exact absurd HA.out (by simp [headgatelaw15_FoldRows.l0])
            | succ k1 =>
              have H := HA.out
              clear HA
              simp only [headgatelaw15_FoldRows.l0] at H
              by_cases c33 : x8_1 < (t197.length : Int)
              · rw [if_pos c33] at H
                have c33b0 : decide (x8_1 < (t197.length : Int)) = true := decide_eq_true c33
                clear c33
                by_cases c34 : 0 ≤ x8_1
                · rw [if_pos c34] at H
                  have c34b0 : decide (0 ≤ x8_1) = true := decide_eq_true c34
                  clear c34
                  replace H := Option.bind_eq_some_iff.mp H
                  obtain ⟨⟨t238, t239, t240, t241, t242, t243, t244, t245, t246, t247⟩, A350, H⟩ := H
                  replace H : (headgatelaw15_FoldRows.l0 k1 t197 (wrap64 (x8_1 + 1)) t200 t201 t202 t203 t204 t205 t206 t207 t208 t209 t238 t239 t240 t241 t242 t243 t244 t245 t246 t247) = some r := H
                  have A35 := Aside0.mk A350
                  clear A350
                  have H' := Aside0.mk H
                  clear H
                  try go_wp2
                  have n0_ := Aside0.mk (Kd.V_drew HO_0.out)
                  have n1_ := Aside0.mk (blk_drew BK210.out)
                  have n2_ := Aside0.mk (blk_drew BK236.out)
                  have n3_ := Aside0.mk (below_drew1 HB.out)
                  clear HO_0
                  clear BK210
                  clear BK236
                  clear HB
                  have HO_0 := n0_
                  have BK210 := n1_
                  have BK236 := n2_
                  have HB := n3_
                  clear n0_ n1_ n2_ n3_
                  have p237 : 0 ≤ (x8_1 : Int) := of_decide_eq_true (by first | (with_reducible assumption) | assumption)
                  have q237 : x8_1 < (t197.length : Int) := of_decide_eq_true (by first | (with_reducible assumption) | assumption)
                  obtain ⟨ad237, e237, hx237_0⟩ := Kd.at_int (Kd.V_reads' HO_0.out).2.2 x8_1 p237 q237
                  cases e237
                  replace p237 := eq_true p237
                  replace q237 := eq_true q237
                  refine start_ (n := 7) (S := fun w' => w'.cell? ⟨gb236, 0, none⟩ = some (.int .i64 x237000_1) ∧ w'.cell? ⟨gb236, 1, none⟩ = some (.int .i64 x237001_1) ∧ w'.cell? ⟨gb236, 2, none⟩ = some (.int .i64 x237002_1) ∧ w'.cell? ⟨gb236, 3, none⟩ = some (.int .i64 x237003_1) ∧ w'.cell? ⟨gb236, 4, none⟩ = some (.int .i64 x237004_1) ∧ w'.cell? ⟨gb236, 5, none⟩ = some (.int .i64 x237005_1) ∧ w'.cell? ⟨gb236, 6, none⟩ = some (.int .i64 x237006_1) ∧ w'.cell? ⟨gb236, 7, none⟩ = some (.int .i64 x237007_1) ∧ w'.cell? ⟨gb236, 8, none⟩ = some (.int .i64 x237008_1) ∧ w'.cell? ⟨gb236, 9, none⟩ = some (.int .i64 x237009_1) ∧ w'.cell? (ad237.add (x8_1).toNat) = some (.int .i64 (rd t197 x8_1))) (ds := [6]) #[false, false, false, false, false, false, false] (by kernel_rfl) rfl rfl ⟨(blk_cell BK236.out 0).trans rfl, (blk_cell BK236.out 1).trans rfl, (blk_cell BK236.out 2).trans rfl, (blk_cell BK236.out 3).trans rfl, (blk_cell BK236.out 4).trans rfl, (blk_cell BK236.out 5).trans rfl, (blk_cell BK236.out 6).trans rfl, (blk_cell BK236.out 7).trans rfl, (blk_cell BK236.out 8).trans rfl, (blk_cell BK236.out 9).trans rfl, hx237_0⟩ (fun hHeld => ?_)
                  generalize wr.drew = w36 at HO_0 BK210 BK236 HB hx237_0 hHeld ⊢
                  refine pure_ (i := 1) (N := some 42) (v := ?_) (a' := ?_) #[false, true, false, false, false, false, false] rfl rfl (by kernel_rfl) (fun _ _ _ h => h) (Or.inl ⟨by rfl, ?_⟩) ?_ ?_
                  rotate_left
                  · intro w'
                    go_simp
                    with_reducible rfl
                  rotate_left
                  · simp only [Act.put, List.setIfInBounds_toArray, List.set_cons_zero, List.set_cons_succ, i64_w, i32_w]
                    rfl
                  refine pure_ (i := 2) (N := some 43) (v := ?_) (a' := ?_) #[false, true, true, false, false, false, false] rfl rfl (by kernel_rfl) (fun _ _ _ h => h) (Or.inl ⟨by rfl, ?_⟩) ?_ ?_
                  rotate_left
                  · intro w'
                    go_simp
                    with_reducible rfl
                  rotate_left
                  · simp only [Act.put, List.setIfInBounds_toArray, List.set_cons_zero, List.set_cons_succ, i64_w, i32_w]
                    rfl
                  refine pure_ (i := 3) (N := some 44) (v := ?_) (a' := ?_) #[false, true, true, true, false, false, false] rfl rfl (by kernel_rfl) (fun _ _ _ h => h) (Or.inl ⟨by rfl, ?_⟩) ?_ ?_
                  rotate_left
                  · intro w'
                    go_simp
                    with_reducible rfl
                  rotate_left
                  · simp only [Act.put, List.setIfInBounds_toArray, List.set_cons_zero, List.set_cons_succ, i64_w, i32_w]
                    rfl
                  refine take_ (i := 0) (N := some 41) (v := ?_) (a' := ?_) #[true, true, true, true, false, false, false] rfl rfl (by kernel_rfl) (fun _ _ _ h => h) (Or.inl ⟨by rfl, ?_⟩) hHeld ?_ ?_
                  rotate_left
                  · rintro w' ⟨s0, s1, s2, s3, s4, s5, s6, s7, s8, s9, s10⟩
                    go_simp
                    with_reducible rfl
                  rotate_left
                  · simp only [Act.put, List.setIfInBounds_toArray, List.set_cons_zero, List.set_cons_succ, i64_w, i32_w]
                    rfl
                  refine take_ (i := 4) (N := some 45) (v := ?_) (a' := ?_) #[true, true, true, true, true, false, false] rfl rfl (by kernel_rfl) (fun _ _ _ h => h) (Or.inl ⟨by rfl, ?_⟩) hHeld ?_ ?_
                  rotate_left
                  · rintro w' ⟨s0, s1, s2, s3, s4, s5, s6, s7, s8, s9, s10⟩
                    go_simp
                    with_reducible rfl
                  rotate_left
                  · simp only [Act.put, List.setIfInBounds_toArray, List.set_cons_zero, List.set_cons_succ, i64_w, i32_w]
                    rfl
                  refine one_ (i := 5) (N := some 46) #[true, true, true, true, true, true, false] rfl rfl (by kernel_rfl) (by decide) (fun K hK => ?_)
                  refine goes_ Try.func10 (by kernel_rfl) rfl #[.agg #[.int .i64 x237000_1, .int .i64 x237001_1, .int .i64 x237002_1, .int .i64 x237003_1, .int .i64 x237004_1, .int .i64 x237005_1, .int .i64 x237006_1, .int .i64 x237007_1, .int .i64 x237008_1, .int .i64 x237009_1], .int .i64 (rd t197 x8_1)] (by rfl) rfl rfl (by (try simp only [List.map_toArray, List.map_cons, List.map_nil]); first | done | rfl | (simp only [List.length_drop, List.length_take]; rfl)) ?_
                  with_reducible refine (fold_Add.calls k1 x237000_1 x237001_1 x237002_1 x237003_1 x237004_1 x237005_1 x237006_1 x237007_1 x237008_1 x237009_1 (rd t197 x8_1) t238 t239 t240 t241 t242 t243 t244 t245 t246 t247 _ A35.out).mono ?_
                  rintro e w37 ⟨rfl, hb⟩
                  have HS10_ := (hb.cell (World.block_lt_of_cell? _ _ (hHeld.2.2.2.2.2.2.2.2.2.2))).trans (hHeld.2.2.2.2.2.2.2.2.2.2)
                  refine ⟨_, rfl, ?_⟩
                  have n0_ := Aside0.mk (Kd.V_below (by (with_reducible repeat (first | apply Kd.V_alloc | apply Kd.V_drewN | apply Kd.V_drew)); exact HO_0.out) hb)
                  have n1_ := Aside0.mk (blk_below (g := gb210) (o := .cells #[.int .i64 t200, .int .i64 t201, .int .i64 t202, .int .i64 t203, .int .i64 t204, .int .i64 t205, .int .i64 t206, .int .i64 t207, .int .i64 t208, .int .i64 t209] 24 (0, 0)) (by (with_reducible repeat (first | refine blk_drewN ?_ _ | refine blk_drew ?_ | refine blk_alloc ?_ _)); exact BK210.out) hb)
                  have n2_ := Aside0.mk (blk_below (g := gb236) (o := .cells #[.int .i64 x237000_1, .int .i64 x237001_1, .int .i64 x237002_1, .int .i64 x237003_1, .int .i64 x237004_1, .int .i64 x237005_1, .int .i64 x237006_1, .int .i64 x237007_1, .int .i64 x237008_1, .int .i64 x237009_1] 24 (0, 0)) (by (with_reducible repeat (first | refine blk_drewN ?_ _ | refine blk_drew ?_ | refine blk_alloc ?_ _)); exact BK236.out) hb)
                  have n3_ := Aside0.mk (below_step (by repeat (first | (with_reducible first | exact HB.out | apply below_alloc | apply pw_below_drewN | apply below_drew1 | refine below_set ?_ GE210.out | refine below_set ?_ GE236.out) | exact HB.out)) hb)
                  clear HO_0
                  clear BK210
                  clear BK236
                  clear HB
                  have HO_0 := n0_
                  have BK210 := n1_
                  have BK236 := n2_
                  have HB := n3_
                  clear n0_ n1_ n2_ n3_
                  (try clear hb)
                  (try clear hb2)
                  (try clear hk)
                  (try clear hi)
                  refine hK.out _ _ ⟨(blk_cell BK236.out 0).trans rfl, (blk_cell BK236.out 1).trans rfl, (blk_cell BK236.out 2).trans rfl, (blk_cell BK236.out 3).trans rfl, (blk_cell BK236.out 4).trans rfl, (blk_cell BK236.out 5).trans rfl, (blk_cell BK236.out 6).trans rfl, (blk_cell BK236.out 7).trans rfl, (blk_cell BK236.out 8).trans rfl, (blk_cell BK236.out 9).trans rfl, HS10_⟩ (fun hHeld => ?_)
                  clear hK K
                  refine norm_ (a' := ?_) ?_ ?_
                  rotate_left
                  · show Act.put _ (some 46) _ = _
                    simp only [Act.put, List.setIfInBounds_toArray, List.set_cons_zero, List.set_cons_succ, i64_w, i32_w]
                    rfl
                  refine last_ (i := 6) (N := none) #[true, true, true, true, true, true, true] rfl rfl (by kernel_rfl) (by decide) (fun K hK => ?_)
                  have hs38 : w37.cell? ⟨gb236, 0, none⟩ = some (.int .i64 x237000_1) := (blk_cell BK236.out 0).trans rfl
                  have hfs38 := blk_frozen BK236.out 0
                  have hns38_0 := NB210_236.out
                  have hms38_0 := NB236_210.out
                  have hs39 : w37.cell? ⟨gb236, 1, none⟩ = some (.int .i64 x237001_1) := (blk_cell BK236.out 1).trans rfl
                  have hfs39 := blk_frozen BK236.out 1
                  have hns39_0 := NB210_236.out
                  have hms39_0 := NB236_210.out
                  have hs40 : w37.cell? ⟨gb236, 2, none⟩ = some (.int .i64 x237002_1) := (blk_cell BK236.out 2).trans rfl
                  have hfs40 := blk_frozen BK236.out 2
                  have hns40_0 := NB210_236.out
                  have hms40_0 := NB236_210.out
                  have hs41 : w37.cell? ⟨gb236, 3, none⟩ = some (.int .i64 x237003_1) := (blk_cell BK236.out 3).trans rfl
                  have hfs41 := blk_frozen BK236.out 3
                  have hns41_0 := NB210_236.out
                  have hms41_0 := NB236_210.out
                  have hs42 : w37.cell? ⟨gb236, 4, none⟩ = some (.int .i64 x237004_1) := (blk_cell BK236.out 4).trans rfl
                  have hfs42 := blk_frozen BK236.out 4
                  have hns42_0 := NB210_236.out
                  have hms42_0 := NB236_210.out
                  have hs43 : w37.cell? ⟨gb236, 5, none⟩ = some (.int .i64 x237005_1) := (blk_cell BK236.out 5).trans rfl
                  have hfs43 := blk_frozen BK236.out 5
                  have hns43_0 := NB210_236.out
                  have hms43_0 := NB236_210.out
                  have hs44 : w37.cell? ⟨gb236, 6, none⟩ = some (.int .i64 x237006_1) := (blk_cell BK236.out 6).trans rfl
                  have hfs44 := blk_frozen BK236.out 6
                  have hns44_0 := NB210_236.out
                  have hms44_0 := NB236_210.out
                  have hs45 : w37.cell? ⟨gb236, 7, none⟩ = some (.int .i64 x237007_1) := (blk_cell BK236.out 7).trans rfl
                  have hfs45 := blk_frozen BK236.out 7
                  have hns45_0 := NB210_236.out
                  have hms45_0 := NB236_210.out
                  have hs46 : w37.cell? ⟨gb236, 8, none⟩ = some (.int .i64 x237008_1) := (blk_cell BK236.out 8).trans rfl
                  have hfs46 := blk_frozen BK236.out 8
                  have hns46_0 := NB210_236.out
                  have hms46_0 := NB236_210.out
                  have hs47 : w37.cell? ⟨gb236, 9, none⟩ = some (.int .i64 x237009_1) := (blk_cell BK236.out 9).trans rfl
                  have hfs47 := blk_frozen BK236.out 9
                  have hns47_0 := NB210_236.out
                  have hms47_0 := NB236_210.out
                  refine skip_ (w1 := ?_) (by rfl) rfl ?_ ?_
                  rotate_left
                  · go_simp
                    rfl
                  refine hK.out _ _ ?_
                  clear hK K
                  refine done_ (by kernel_rfl) ?_
                  try go_wp2
                  go_roundg k1
                  case measure => have := HK1.out; omega
                  case rel => exact ⟨(wrap64 (x8_1 + 1)), (t238), (t239), (t240), (t241), (t242), (t243), (t244), (t245), (t246), (t247), (by first | rfl | (simp; done) | (simp [*]; done)), H', ⟨by have := HK1.out; omega⟩, ⟨by (with_reducible repeat (first | apply Kd.V_alloc | apply Kd.V_drewN | apply Kd.V_drew)); exact Kd.V_mono (Kd.V_far (p := ⟨gb236, 9, none⟩) (Kd.V_far (p := ⟨gb236, 8, none⟩) (Kd.V_far (p := ⟨gb236, 7, none⟩) (Kd.V_far (p := ⟨gb236, 6, none⟩) (Kd.V_far (p := ⟨gb236, 5, none⟩) (Kd.V_far (p := ⟨gb236, 4, none⟩) (Kd.V_far (p := ⟨gb236, 3, none⟩) (Kd.V_far (p := ⟨gb236, 2, none⟩) (Kd.V_far (p := ⟨gb236, 1, none⟩) (Kd.V_far (p := ⟨gb236, 0, none⟩) (Kd.V_mono HO_0.out (fun k_ hk => (⟨hk, hk.2⟩ : _ ∧ k_ ≠ gb236))) (fun _ hk => hk.2) (.int .i64 t238)) (fun _ hk => hk.2) (.int .i64 t239)) (fun _ hk => hk.2) (.int .i64 t240)) (fun _ hk => hk.2) (.int .i64 t241)) (fun _ hk => hk.2) (.int .i64 t242)) (fun _ hk => hk.2) (.int .i64 t243)) (fun _ hk => hk.2) (.int .i64 t244)) (fun _ hk => hk.2) (.int .i64 t245)) (fun _ hk => hk.2) (.int .i64 t246)) (fun _ hk => hk.2) (.int .i64 t247)) (fun _ hk => ⟨hk.1.1, hk.1.2⟩)⟩, ⟨by (with_reducible repeat (first | refine blk_drewN ?_ _ | refine blk_drew ?_ | refine blk_alloc ?_ _)); refine blk_far ?_ NB210_236.out _; (with_reducible repeat (first | refine blk_drewN ?_ _ | refine blk_drew ?_ | refine blk_alloc ?_ _)); refine blk_far ?_ NB210_236.out _; (with_reducible repeat (first | refine blk_drewN ?_ _ | refine blk_drew ?_ | refine blk_alloc ?_ _)); refine blk_far ?_ NB210_236.out _; (with_reducible repeat (first | refine blk_drewN ?_ _ | refine blk_drew ?_ | refine blk_alloc ?_ _)); refine blk_far ?_ NB210_236.out _; (with_reducible repeat (first | refine blk_drewN ?_ _ | refine blk_drew ?_ | refine blk_alloc ?_ _)); refine blk_far ?_ NB210_236.out _; (with_reducible repeat (first | refine blk_drewN ?_ _ | refine blk_drew ?_ | refine blk_alloc ?_ _)); refine blk_far ?_ NB210_236.out _; (with_reducible repeat (first | refine blk_drewN ?_ _ | refine blk_drew ?_ | refine blk_alloc ?_ _)); refine blk_far ?_ NB210_236.out _; (with_reducible repeat (first | refine blk_drewN ?_ _ | refine blk_drew ?_ | refine blk_alloc ?_ _)); refine blk_far ?_ NB210_236.out _; (with_reducible repeat (first | refine blk_drewN ?_ _ | refine blk_drew ?_ | refine blk_alloc ?_ _)); refine blk_far ?_ NB210_236.out _; (with_reducible repeat (first | refine blk_drewN ?_ _ | refine blk_drew ?_ | refine blk_alloc ?_ _)); refine blk_far ?_ NB210_236.out _; (with_reducible repeat (first | refine blk_drewN ?_ _ | refine blk_drew ?_ | refine blk_alloc ?_ _)); exact BK210.out⟩, ⟨by (with_reducible repeat (first | refine blk_drewN ?_ _ | refine blk_drew ?_ | refine blk_alloc ?_ _)); refine blk_put (cs := #[.int .i64 t238, .int .i64 t239, .int .i64 t240, .int .i64 t241, .int .i64 t242, .int .i64 t243, .int .i64 t244, .int .i64 t245, .int .i64 t246, .int .i64 x237009_1]) ?_ 9 _ rfl; (with_reducible repeat (first | refine blk_drewN ?_ _ | refine blk_drew ?_ | refine blk_alloc ?_ _)); refine blk_put (cs := #[.int .i64 t238, .int .i64 t239, .int .i64 t240, .int .i64 t241, .int .i64 t242, .int .i64 t243, .int .i64 t244, .int .i64 t245, .int .i64 x237008_1, .int .i64 x237009_1]) ?_ 8 _ rfl; (with_reducible repeat (first | refine blk_drewN ?_ _ | refine blk_drew ?_ | refine blk_alloc ?_ _)); refine blk_put (cs := #[.int .i64 t238, .int .i64 t239, .int .i64 t240, .int .i64 t241, .int .i64 t242, .int .i64 t243, .int .i64 t244, .int .i64 x237007_1, .int .i64 x237008_1, .int .i64 x237009_1]) ?_ 7 _ rfl; (with_reducible repeat (first | refine blk_drewN ?_ _ | refine blk_drew ?_ | refine blk_alloc ?_ _)); refine blk_put (cs := #[.int .i64 t238, .int .i64 t239, .int .i64 t240, .int .i64 t241, .int .i64 t242, .int .i64 t243, .int .i64 x237006_1, .int .i64 x237007_1, .int .i64 x237008_1, .int .i64 x237009_1]) ?_ 6 _ rfl; (with_reducible repeat (first | refine blk_drewN ?_ _ | refine blk_drew ?_ | refine blk_alloc ?_ _)); refine blk_put (cs := #[.int .i64 t238, .int .i64 t239, .int .i64 t240, .int .i64 t241, .int .i64 t242, .int .i64 x237005_1, .int .i64 x237006_1, .int .i64 x237007_1, .int .i64 x237008_1, .int .i64 x237009_1]) ?_ 5 _ rfl; (with_reducible repeat (first | refine blk_drewN ?_ _ | refine blk_drew ?_ | refine blk_alloc ?_ _)); refine blk_put (cs := #[.int .i64 t238, .int .i64 t239, .int .i64 t240, .int .i64 t241, .int .i64 x237004_1, .int .i64 x237005_1, .int .i64 x237006_1, .int .i64 x237007_1, .int .i64 x237008_1, .int .i64 x237009_1]) ?_ 4 _ rfl; (with_reducible repeat (first | refine blk_drewN ?_ _ | refine blk_drew ?_ | refine blk_alloc ?_ _)); refine blk_put (cs := #[.int .i64 t238, .int .i64 t239, .int .i64 t240, .int .i64 x237003_1, .int .i64 x237004_1, .int .i64 x237005_1, .int .i64 x237006_1, .int .i64 x237007_1, .int .i64 x237008_1, .int .i64 x237009_1]) ?_ 3 _ rfl; (with_reducible repeat (first | refine blk_drewN ?_ _ | refine blk_drew ?_ | refine blk_alloc ?_ _)); refine blk_put (cs := #[.int .i64 t238, .int .i64 t239, .int .i64 x237002_1, .int .i64 x237003_1, .int .i64 x237004_1, .int .i64 x237005_1, .int .i64 x237006_1, .int .i64 x237007_1, .int .i64 x237008_1, .int .i64 x237009_1]) ?_ 2 _ rfl; (with_reducible repeat (first | refine blk_drewN ?_ _ | refine blk_drew ?_ | refine blk_alloc ?_ _)); refine blk_put (cs := #[.int .i64 t238, .int .i64 x237001_1, .int .i64 x237002_1, .int .i64 x237003_1, .int .i64 x237004_1, .int .i64 x237005_1, .int .i64 x237006_1, .int .i64 x237007_1, .int .i64 x237008_1, .int .i64 x237009_1]) ?_ 1 _ rfl; (with_reducible repeat (first | refine blk_drewN ?_ _ | refine blk_drew ?_ | refine blk_alloc ?_ _)); refine blk_put (cs := #[.int .i64 x237000_1, .int .i64 x237001_1, .int .i64 x237002_1, .int .i64 x237003_1, .int .i64 x237004_1, .int .i64 x237005_1, .int .i64 x237006_1, .int .i64 x237007_1, .int .i64 x237008_1, .int .i64 x237009_1]) ?_ 0 _ rfl; (with_reducible repeat (first | refine blk_drewN ?_ _ | refine blk_drew ?_ | refine blk_alloc ?_ _)); exact BK236.out⟩, ⟨by repeat (first | (with_reducible first | exact HB.out | apply below_alloc | apply pw_below_drewN | apply below_drew1 | refine below_set ?_ GE210.out | refine below_set ?_ GE236.out) | exact HB.out)⟩⟩
                · rw [if_neg c34] at H
                  exact absurd H (by simp)
              · rw [if_neg c33] at H
                have c33b0 : decide (x8_1 < (t197.length : Int)) = false := decide_eq_false c33
                clear c33
                by_cases c48 : (t200 == x237000_1 && (t201 == x237001_1 && (t202 == x237002_1 && (t203 == x237003_1 && ((t204 == x237004_1 && (t205 == x237005_1 && (t206 == x237006_1 && (t207 == x237007_1)))) && (t208 == x237008_1 && (t209 == x237009_1))))))) = true
                · rw [if_pos c48] at H
                  have c48b0 : (t200 == x237000_1 && (t201 == x237001_1 && (t202 == x237002_1 && (t203 == x237003_1 && ((t204 == x237004_1 && (t205 == x237005_1 && (t206 == x237006_1 && (t207 == x237007_1)))) && (t208 == x237008_1 && (t209 == x237009_1))))))) = true := c48
                  try (have c48b8 := c48b0; simp only [Bool.and_eq_true, beq_iff_eq] at c48b8; replace c48b8 := eq_true c48b8)
                  (try (have c48b1 : decide (t200 = x237000_1 && (t201 == x237001_1 && (t202 == x237002_1 && (t203 == x237003_1 && ((t204 == x237004_1 && (t205 == x237005_1 && (t206 == x237006_1 && (t207 == x237007_1)))) && (t208 == x237008_1 && (t209 == x237009_1))))))) = true := by simpa using c48))
                  (try (have c48b2 : (t200 == x237000_1 && (t201 == x237001_1 && (t202 == x237002_1 && (t203 == x237003_1 && ((t204 == x237004_1 && (t205 == x237005_1 && (t206 == x237006_1 && (t207 == x237007_1)))) && (t208 == x237008_1 && (t209 == x237009_1))))))) = true := by simpa using c48))
                  clear c48
                  replace H := Option.bind_eq_some_iff.mp H
                  obtain ⟨t248, A490, H⟩ := H
                  replace H : (some t248) = some r := H
                  have A49 := Aside0.mk A490
                  clear A490
                  obtain rfl := Option.some.inj H
                  have hnb50 := NB210_236.out
                  have hnc50 := NB236_210.out
                  have hcz51_0 : wr.cell? ⟨gb210, 0, none⟩ = some (.int .i64 t200) := (blk_cell BK210.out 0).trans rfl
                  have hcz51_1 : wr.cell? ⟨gb210, 1, none⟩ = some (.int .i64 t201) := (blk_cell BK210.out 1).trans rfl
                  have hcz51_2 : wr.cell? ⟨gb210, 2, none⟩ = some (.int .i64 t202) := (blk_cell BK210.out 2).trans rfl
                  have hcz51_3 : wr.cell? ⟨gb210, 3, none⟩ = some (.int .i64 t203) := (blk_cell BK210.out 3).trans rfl
                  have hcz51_4 : wr.cell? ⟨gb210, 4, none⟩ = some (.int .i64 t204) := (blk_cell BK210.out 4).trans rfl
                  have hcz51_5 : wr.cell? ⟨gb210, 5, none⟩ = some (.int .i64 t205) := (blk_cell BK210.out 5).trans rfl
                  have hcz51_6 : wr.cell? ⟨gb210, 6, none⟩ = some (.int .i64 t206) := (blk_cell BK210.out 6).trans rfl
                  have hcz51_7 : wr.cell? ⟨gb210, 7, none⟩ = some (.int .i64 t207) := (blk_cell BK210.out 7).trans rfl
                  have hcz51_8 : wr.cell? ⟨gb210, 8, none⟩ = some (.int .i64 t208) := (blk_cell BK210.out 8).trans rfl
                  have hcz51_9 : wr.cell? ⟨gb210, 9, none⟩ = some (.int .i64 t209) := (blk_cell BK210.out 9).trans rfl
                  have hfz51_0 := blk_frozen BK210.out 0
                  have hfz51_1 := blk_frozen BK210.out 1
                  have hfz51_2 := blk_frozen BK210.out 2
                  have hfz51_3 := blk_frozen BK210.out 3
                  have hfz51_4 := blk_frozen BK210.out 4
                  have hfz51_5 := blk_frozen BK210.out 5
                  have hfz51_6 := blk_frozen BK210.out 6
                  have hfz51_7 := blk_frozen BK210.out 7
                  have hfz51_8 := blk_frozen BK210.out 8
                  have hfz51_9 := blk_frozen BK210.out 9
                  have hcz52_0 : wr.cell? ⟨gb236, 0, none⟩ = some (.int .i64 x237000_1) := (blk_cell BK236.out 0).trans rfl
                  have hcz52_1 : wr.cell? ⟨gb236, 1, none⟩ = some (.int .i64 x237001_1) := (blk_cell BK236.out 1).trans rfl
                  have hcz52_2 : wr.cell? ⟨gb236, 2, none⟩ = some (.int .i64 x237002_1) := (blk_cell BK236.out 2).trans rfl
                  have hcz52_3 : wr.cell? ⟨gb236, 3, none⟩ = some (.int .i64 x237003_1) := (blk_cell BK236.out 3).trans rfl
                  have hcz52_4 : wr.cell? ⟨gb236, 4, none⟩ = some (.int .i64 x237004_1) := (blk_cell BK236.out 4).trans rfl
                  have hcz52_5 : wr.cell? ⟨gb236, 5, none⟩ = some (.int .i64 x237005_1) := (blk_cell BK236.out 5).trans rfl
                  have hcz52_6 : wr.cell? ⟨gb236, 6, none⟩ = some (.int .i64 x237006_1) := (blk_cell BK236.out 6).trans rfl
                  have hcz52_7 : wr.cell? ⟨gb236, 7, none⟩ = some (.int .i64 x237007_1) := (blk_cell BK236.out 7).trans rfl
                  have hcz52_8 : wr.cell? ⟨gb236, 8, none⟩ = some (.int .i64 x237008_1) := (blk_cell BK236.out 8).trans rfl
                  have hcz52_9 : wr.cell? ⟨gb236, 9, none⟩ = some (.int .i64 x237009_1) := (blk_cell BK236.out 9).trans rfl
                  have hfz52_0 := blk_frozen BK236.out 0
                  have hfz52_1 := blk_frozen BK236.out 1
                  have hfz52_2 := blk_frozen BK236.out 2
                  have hfz52_3 := blk_frozen BK236.out 3
                  have hfz52_4 := blk_frozen BK236.out 4
                  have hfz52_5 := blk_frozen BK236.out 5
                  have hfz52_6 := blk_frozen BK236.out 6
                  have hfz52_7 := blk_frozen BK236.out 7
                  have hfz52_8 := blk_frozen BK236.out 8
                  have hfz52_9 := blk_frozen BK236.out 9
                  go_wp2_with (first | (go_at_call 14; (with_reducible refine (headgatelaw15_awake.calls k1  t248 _ A49.out).mono ?_); rintro e w53 ⟨rfl, hb⟩; have n0_ := Aside0.mk (Kd.V_below (by (with_reducible repeat (first | apply Kd.V_alloc | apply Kd.V_drewN | apply Kd.V_drew)); exact HO_0.out) hb); have n1_ := Aside0.mk (blk_below (g := gb210) (o := .cells #[.int .i64 t200, .int .i64 t201, .int .i64 t202, .int .i64 t203, .int .i64 t204, .int .i64 t205, .int .i64 t206, .int .i64 t207, .int .i64 t208, .int .i64 t209] 24 (0, 0)) (by (with_reducible repeat (first | refine blk_drewN ?_ _ | refine blk_drew ?_ | refine blk_alloc ?_ _)); exact BK210.out) hb); have n2_ := Aside0.mk (blk_below (g := gb236) (o := .cells #[.int .i64 x237000_1, .int .i64 x237001_1, .int .i64 x237002_1, .int .i64 x237003_1, .int .i64 x237004_1, .int .i64 x237005_1, .int .i64 x237006_1, .int .i64 x237007_1, .int .i64 x237008_1, .int .i64 x237009_1] 24 (0, 0)) (by (with_reducible repeat (first | refine blk_drewN ?_ _ | refine blk_drew ?_ | refine blk_alloc ?_ _)); exact BK236.out) hb); have n3_ := Aside0.mk (below_step (by repeat (first | (with_reducible first | exact HB.out | apply below_alloc | apply pw_below_drewN | apply below_drew1 | refine below_set ?_ GE210.out | refine below_set ?_ GE236.out) | exact HB.out)) hb); clear HO_0; clear BK210; clear BK236; clear HB; have HO_0 := n0_; have BK210 := n1_; have BK236 := n2_; have HB := n3_; clear n0_ n1_ n2_ n3_; (try clear hb); (try clear hb2); (try clear hk); (try clear hi)))
                  go_ret
                  exact ⟨by first | rfl | (simp [errW_none, errW_some] <;> rfl) | (simp only [← hji16]; first | rfl | (simp [errW_none, errW_some] <;> rfl)) | (simp [*, errW_none, errW_some] <;> rfl), by repeat (first | (with_reducible first | exact HB.out | apply below_alloc | apply pw_below_drewN | apply below_drew1 | refine below_set ?_ GE210.out | refine below_set ?_ GE236.out) | exact HB.out)⟩
                · rw [if_neg c48] at H
                  have c48b0 : (t200 == x237000_1 && (t201 == x237001_1 && (t202 == x237002_1 && (t203 == x237003_1 && ((t204 == x237004_1 && (t205 == x237005_1 && (t206 == x237006_1 && (t207 == x237007_1)))) && (t208 == x237008_1 && (t209 == x237009_1))))))) = false := by simpa using c48
                  try (have c48b8 := Bool.eq_false_iff.mp c48b0; simp only [ne_eq, Bool.and_eq_true, beq_iff_eq] at c48b8; replace c48b8 := eq_false c48b8)
                  (try (have c48b1 : decide (t200 = x237000_1 && (t201 == x237001_1 && (t202 == x237002_1 && (t203 == x237003_1 && ((t204 == x237004_1 && (t205 == x237005_1 && (t206 == x237006_1 && (t207 == x237007_1)))) && (t208 == x237008_1 && (t209 == x237009_1))))))) = false := by simpa using c48))
                  (try (have c48b2 : (t200 == x237000_1 && (t201 == x237001_1 && (t202 == x237002_1 && (t203 == x237003_1 && ((t204 == x237004_1 && (t205 == x237005_1 && (t206 == x237006_1 && (t207 == x237007_1)))) && (t208 == x237008_1 && (t209 == x237009_1))))))) = false := by simpa using c48))
                  (try (have c48b3 : ¬ (t200 = x237000_1 && (t201 == x237001_1 && (t202 == x237002_1 && (t203 == x237003_1 && ((t204 == x237004_1 && (t205 == x237005_1 && (t206 == x237006_1 && (t207 == x237007_1)))) && (t208 == x237008_1 && (t209 == x237009_1))))))) := by simpa using c48))
                  clear c48
                  obtain rfl := Option.some.inj H
                  have hnb54 := NB210_236.out
                  have hnc54 := NB236_210.out
                  have hcz55_0 : wr.cell? ⟨gb210, 0, none⟩ = some (.int .i64 t200) := (blk_cell BK210.out 0).trans rfl
                  have hcz55_1 : wr.cell? ⟨gb210, 1, none⟩ = some (.int .i64 t201) := (blk_cell BK210.out 1).trans rfl
                  have hcz55_2 : wr.cell? ⟨gb210, 2, none⟩ = some (.int .i64 t202) := (blk_cell BK210.out 2).trans rfl
                  have hcz55_3 : wr.cell? ⟨gb210, 3, none⟩ = some (.int .i64 t203) := (blk_cell BK210.out 3).trans rfl
                  have hcz55_4 : wr.cell? ⟨gb210, 4, none⟩ = some (.int .i64 t204) := (blk_cell BK210.out 4).trans rfl
                  have hcz55_5 : wr.cell? ⟨gb210, 5, none⟩ = some (.int .i64 t205) := (blk_cell BK210.out 5).trans rfl
                  have hcz55_6 : wr.cell? ⟨gb210, 6, none⟩ = some (.int .i64 t206) := (blk_cell BK210.out 6).trans rfl
                  have hcz55_7 : wr.cell? ⟨gb210, 7, none⟩ = some (.int .i64 t207) := (blk_cell BK210.out 7).trans rfl
                  have hcz55_8 : wr.cell? ⟨gb210, 8, none⟩ = some (.int .i64 t208) := (blk_cell BK210.out 8).trans rfl
                  have hcz55_9 : wr.cell? ⟨gb210, 9, none⟩ = some (.int .i64 t209) := (blk_cell BK210.out 9).trans rfl
                  have hfz55_0 := blk_frozen BK210.out 0
                  have hfz55_1 := blk_frozen BK210.out 1
                  have hfz55_2 := blk_frozen BK210.out 2
                  have hfz55_3 := blk_frozen BK210.out 3
                  have hfz55_4 := blk_frozen BK210.out 4
                  have hfz55_5 := blk_frozen BK210.out 5
                  have hfz55_6 := blk_frozen BK210.out 6
                  have hfz55_7 := blk_frozen BK210.out 7
                  have hfz55_8 := blk_frozen BK210.out 8
                  have hfz55_9 := blk_frozen BK210.out 9
                  have hcz56_0 : wr.cell? ⟨gb236, 0, none⟩ = some (.int .i64 x237000_1) := (blk_cell BK236.out 0).trans rfl
                  have hcz56_1 : wr.cell? ⟨gb236, 1, none⟩ = some (.int .i64 x237001_1) := (blk_cell BK236.out 1).trans rfl
                  have hcz56_2 : wr.cell? ⟨gb236, 2, none⟩ = some (.int .i64 x237002_1) := (blk_cell BK236.out 2).trans rfl
                  have hcz56_3 : wr.cell? ⟨gb236, 3, none⟩ = some (.int .i64 x237003_1) := (blk_cell BK236.out 3).trans rfl
                  have hcz56_4 : wr.cell? ⟨gb236, 4, none⟩ = some (.int .i64 x237004_1) := (blk_cell BK236.out 4).trans rfl
                  have hcz56_5 : wr.cell? ⟨gb236, 5, none⟩ = some (.int .i64 x237005_1) := (blk_cell BK236.out 5).trans rfl
                  have hcz56_6 : wr.cell? ⟨gb236, 6, none⟩ = some (.int .i64 x237006_1) := (blk_cell BK236.out 6).trans rfl
                  have hcz56_7 : wr.cell? ⟨gb236, 7, none⟩ = some (.int .i64 x237007_1) := (blk_cell BK236.out 7).trans rfl
                  have hcz56_8 : wr.cell? ⟨gb236, 8, none⟩ = some (.int .i64 x237008_1) := (blk_cell BK236.out 8).trans rfl
                  have hcz56_9 : wr.cell? ⟨gb236, 9, none⟩ = some (.int .i64 x237009_1) := (blk_cell BK236.out 9).trans rfl
                  have hfz56_0 := blk_frozen BK236.out 0
                  have hfz56_1 := blk_frozen BK236.out 1
                  have hfz56_2 := blk_frozen BK236.out 2
                  have hfz56_3 := blk_frozen BK236.out 3
                  have hfz56_4 := blk_frozen BK236.out 4
                  have hfz56_5 := blk_frozen BK236.out 5
                  have hfz56_6 := blk_frozen BK236.out 6
                  have hfz56_7 := blk_frozen BK236.out 7
                  have hfz56_8 := blk_frozen BK236.out 8
                  have hfz56_9 := blk_frozen BK236.out 9
                  go_wp2
                  go_ret
                  exact ⟨by first | rfl | (simp [errW_none, errW_some] <;> rfl) | (simp only [← hji16]; first | rfl | (simp [errW_none, errW_some] <;> rfl)) | (simp [*, errW_none, errW_some] <;> rfl), by repeat (first | (with_reducible first | exact HB.out | apply below_alloc | apply pw_below_drewN | apply below_drew1 | refine below_set ?_ GE210.out | refine below_set ?_ GE236.out) | exact HB.out)⟩
        · rw [if_neg c18] at H
          exact absurd H (by simp)
      · rw [if_neg c17] at H
        exact absurd H (by simp)

/-- THE ONE PURE STATEMENT of headgatelaw15_FoldRows: yours. -/
def headgatelaw15_FoldRows.Pure : Prop := ∀ (l0 : List Int) (a1 : Int), l0.length ≤ maxLen → l0.length * 8 ≤ 140737488351232 → (∀ x ∈ l0, (Lit.int .i64 x).wf = true) → (Lit.int .i64 a1).wf = true → ∃ k, headgatelaw15_FoldRows.f k l0 a1 = some true
theorem headgatelaw15_FoldRows.walk (P : headgatelaw15_FoldRows.Pure) (a0 : Option Addr) (len0 cap0 : Nat) (z0 : List Int) (a1 : Int) (w : World) (w0 : (a0 = none ∧ len0 = 0 ∧ cap0 = 0 ∧ z0 = []) ∨ ∃ x, a0 = some x ∧ len0 ≤ cap0 ∧ cap0 ≤ maxLen ∧ z0.length = cap0 ∧ (∀ i, i < z0.length → w.cell? (x.add i) = some (.int .i64 (z0.getD i 0))) ∧ ∀ n ∈ z0, (Lit.int .i64 n).wf = true) (y0 : len0 * 8 ≤ 140737488351232) (w1 : (Lit.int .i64 a1).wf = true) :
    Calls Try.prog 4 #[.slice a0 len0 cap0, .int .i64 a1] w fun e w' => e = .returned (.bool true) ∧ Below w.heap.size w w' := by
  obtain ⟨l0, rfl, hr0, hm0, hw0, hc0⟩ := ReadsInt.ofRowC w0
  obtain ⟨k, h⟩ := P l0 a1 hm0 y0 hw0 w1
  refine (headgatelaw15_FoldRows.calls k _ _ l0 a1 true w (Kd.C_of_reads (d := (0 : Int)) (h1 := fun _ => rfl) hr0) hc0 h).mono ?_
  rintro e w' ⟨rfl, hd⟩
  exact ⟨rfl, hd⟩

end Go.Proofs.Ytpffggpedogifaa.P
