-- Written by wip/mk.py of this repo: the kit's print program, with contracts of our own among its functions.
import Derived.Test.YtikbpjdgihheiaaPx0
import Derived.Test.YtikbpjdgihheiaaPx2
import Derived.Test.YtikbpjdgihheiaaPx24
import Derived.Test.YtikbpjdgihheiaaZz
-- pressed
namespace Go.Proofs.Ytikbpjdgihheiaa.P
open Go.RowKit Go.Proofs.YtikbpjdgihheiaaW.PrintWords Go.Proofs.YtikbpjdgihheiaaW.PrintLast Go.Proofs.YtikbpjdgihheiaaW.PrintMore
attribute [local go_sem] max2_int min2_int max_two min_two max_three min_three max_four min_four   -- for this text's walks alone
attribute [local go_sem ↓] Kp.LDAsk_in
attribute [local go_sem] Kp.LDAsk_run
set_option linter.unusedVariables false
set_option linter.unusedSimpArgs false

attribute [local go_sem high] eqA59
/-! ### headgateref18_SameReply: function 14 -/
mutual
def headgateref18_SameReply.j0 : Nat → Bool → Int → Int → Int → Int → List Int → List (S59) → Int → Int → Int → Int → List Int → List (S59) → Option (Bool)
  | 0, _, _, _, _, _, _, _, _, _, _, _, _, _ => none
  | k + 1, x48, x336000, x336001, x336002, x336003, x336004, x336005, x337000, x337001, x337002, x337003, x337004, x337005 => if x48 = true then (some false) else (headgateref18_SameReply.l0 k 0 x336000 x336001 x336002 x336003 x336004 x336005 x337000 x337001 x337002 x337003 x337004 x337005)
def headgateref18_SameReply.l0 : Nat → Int → Int → Int → Int → Int → List Int → List (S59) → Int → Int → Int → Int → List Int → List (S59) → Option (Bool)
  | 0, _, _, _, _, _, _, _, _, _, _, _, _, _ => none
  | k + 1, x5, x336000, x336001, x336002, x336003, x336004, x336005, x337000, x337001, x337002, x337003, x337004, x337005 => if x5 < (x336005.length : Int) then (if 0 ≤ x5 then (if x5 < (x337005.length : Int) then (if (!(((rd_T59 x336005 x5).f0) == ((rd_T59 x337005 x5).f0)) || ((!(((rd_T59 x336005 x5).f1.f0) == ((rd_T59 x337005 x5).f1.f0)) || (!(((rd_T59 x336005 x5).f1.f1) == ((rd_T59 x337005 x5).f1.f1)) || (!((((rd_T59 x336005 x5).f1.f2).toList) == (((rd_T59 x337005 x5).f1.f2).toList))))))) = true then (some false) else (headgateref18_SameReply.l0 k (wrap64 (x5 + 1)) x336000 x336001 x336002 x336003 x336004 x336005 x337000 x337001 x337002 x337003 x337004 x337005)) else (none)) else (none)) else (some true)
end
def headgateref18_SameReply.f (k : Nat) (a0_0 : Int) (a0_1 : Int) (a0_2 : Int) (a0_3 : Int) (l0_4 : List Int) (l0_5 : List (S59)) (a1_0 : Int) (a1_1 : Int) (a1_2 : Int) (a1_3 : Int) (l1_4 : List Int) (l1_5 : List (S59)) : Option (Bool) := if a0_0 = a1_0 then (if a0_1 = a1_1 then (if a0_2 = a1_2 then (if a0_3 = a1_3 then ((headgateref01_Same.f k l0_4 l1_4).bind fun t337 => (if t337 = true then (headgateref18_SameReply.j0 k ((l0_5.length : Int) != (l1_5.length : Int)) a0_0 a0_1 a0_2 a0_3 l0_4 l0_5 a1_0 a1_1 a1_2 a1_3 l1_4 l1_5) else (headgateref18_SameReply.j0 k true a0_0 a0_1 a0_2 a0_3 l0_4 l0_5 a1_0 a1_1 a1_2 a1_3 l1_4 l1_5))) else (headgateref18_SameReply.j0 k true a0_0 a0_1 a0_2 a0_3 l0_4 l0_5 a1_0 a1_1 a1_2 a1_3 l1_4 l1_5)) else (headgateref18_SameReply.j0 k true a0_0 a0_1 a0_2 a0_3 l0_4 l0_5 a1_0 a1_1 a1_2 a1_3 l1_4 l1_5)) else (headgateref18_SameReply.j0 k true a0_0 a0_1 a0_2 a0_3 l0_4 l0_5 a1_0 a1_1 a1_2 a1_3 l1_4 l1_5)) else (headgateref18_SameReply.j0 k true a0_0 a0_1 a0_2 a0_3 l0_4 l0_5 a1_0 a1_1 a1_2 a1_3 l1_4 l1_5)
theorem headgateref18_SameReply.mono_l : ∀ k, (∀ y0 y1 y2 y3 y4 y5 y6 y7 y8 y9 y10 y11 y12, LeO (headgateref18_SameReply.j0 k y0 y1 y2 y3 y4 y5 y6 y7 y8 y9 y10 y11 y12) (headgateref18_SameReply.j0 (k + 1) y0 y1 y2 y3 y4 y5 y6 y7 y8 y9 y10 y11 y12)) ∧ (∀ y0 y1 y2 y3 y4 y5 y6 y7 y8 y9 y10 y11 y12, LeO (headgateref18_SameReply.l0 k y0 y1 y2 y3 y4 y5 y6 y7 y8 y9 y10 y11 y12) (headgateref18_SameReply.l0 (k + 1) y0 y1 y2 y3 y4 y5 y6 y7 y8 y9 y10 y11 y12))
  | 0 => ⟨fun _ _ _ _ _ _ _ _ _ _ _ _ _ r h => by simp [headgateref18_SameReply.j0] at h, fun _ _ _ _ _ _ _ _ _ _ _ _ _ r h => by simp [headgateref18_SameReply.l0] at h⟩
  | k + 1 => by
    obtain ⟨ih0, ih1⟩ := headgateref18_SameReply.mono_l k
    refine ⟨?_, ?_⟩
    · intro y0 y1 y2 y3 y4 y5 y6 y7 y8 y9 y10 y11 y12
      unfold headgateref18_SameReply.j0
      repeat' first
      | (with_reducible exact ih0 _ _ _ _ _ _ _ _ _ _ _ _ _)
      | (with_reducible exact ih1 _ _ _ _ _ _ _ _ _ _ _ _ _)
      | (with_reducible exact headgateref01_Same.mono _ _ _)
      | (with_reducible exact LeO.refl _)
      | (with_reducible exact LeO.none _)
      | (with_reducible refine LeO.ite ?_ ?_)
      | (with_reducible refine LeO.bind ?_ (fun _ => ?_))
      | exact ih0 _ _ _ _ _ _ _ _ _ _ _ _ _
      | exact ih1 _ _ _ _ _ _ _ _ _ _ _ _ _
      | exact headgateref01_Same.mono _ _ _
      | exact LeO.none _
      | refine LeO.ite ?_ ?_
      | refine LeO.bind ?_ (fun _ => ?_)
    · intro y0 y1 y2 y3 y4 y5 y6 y7 y8 y9 y10 y11 y12
      unfold headgateref18_SameReply.l0
      repeat' first
      | (with_reducible exact ih0 _ _ _ _ _ _ _ _ _ _ _ _ _)
      | (with_reducible exact ih1 _ _ _ _ _ _ _ _ _ _ _ _ _)
      | (with_reducible exact headgateref01_Same.mono _ _ _)
      | (with_reducible exact LeO.refl _)
      | (with_reducible exact LeO.none _)
      | (with_reducible refine LeO.ite ?_ ?_)
      | (with_reducible refine LeO.bind ?_ (fun _ => ?_))
      | exact ih0 _ _ _ _ _ _ _ _ _ _ _ _ _
      | exact ih1 _ _ _ _ _ _ _ _ _ _ _ _ _
      | exact headgateref01_Same.mono _ _ _
      | exact LeO.none _
      | refine LeO.ite ?_ ?_
      | refine LeO.bind ?_ (fun _ => ?_)
theorem headgateref18_SameReply.mono : ∀ a0 a1 a2 a3 a4 a5 a6 a7 a8 a9 a10 a11 k, LeO (headgateref18_SameReply.f k a0 a1 a2 a3 a4 a5 a6 a7 a8 a9 a10 a11) (headgateref18_SameReply.f (k + 1) a0 a1 a2 a3 a4 a5 a6 a7 a8 a9 a10 a11) := by
  intro a0 a1 a2 a3 a4 a5 a6 a7 a8 a9 a10 a11 k
  obtain ⟨ih0, ih1⟩ := headgateref18_SameReply.mono_l k
  unfold headgateref18_SameReply.f
  repeat' first
      | (with_reducible exact ih0 _ _ _ _ _ _ _ _ _ _ _ _ _)
      | (with_reducible exact ih1 _ _ _ _ _ _ _ _ _ _ _ _ _)
      | (with_reducible exact headgateref01_Same.mono _ _ _)
      | (with_reducible exact LeO.refl _)
      | (with_reducible exact LeO.none _)
      | (with_reducible refine LeO.ite ?_ ?_)
      | (with_reducible refine LeO.bind ?_ (fun _ => ?_))
      | exact ih0 _ _ _ _ _ _ _ _ _ _ _ _ _
      | exact ih1 _ _ _ _ _ _ _ _ _ _ _ _ _
      | exact headgateref01_Same.mono _ _ _
      | exact LeO.none _
      | refine LeO.ite ?_ ?_
      | refine LeO.bind ?_ (fun _ => ?_)
set_option maxHeartbeats 8000000 in
set_option maxRecDepth 100000 in
theorem headgateref18_SameReply.calls (k : Nat) (a0_0 : Int) (a0_1 : Int) (a0_2 : Int) (a0_3 : Int) (A0_4 : Option Addr) (c0_4 : Nat) (l0_4 : List Int) (A0_5 : Option Addr) (c0_5 : Nat) (l0_5 : List (S59)) (a1_0 : Int) (a1_1 : Int) (a1_2 : Int) (a1_3 : Int) (A1_4 : Option Addr) (c1_4 : Nat) (l1_4 : List Int) (A1_5 : Option Addr) (c1_5 : Nat) (l1_5 : List (S59)) (r : Bool) (w : World) (hr0_4 : Kd.C (Kd.int .i64) w A0_4 l0_4.length l0_4) (hc0_4 : l0_4.length ≤ c0_4) (hr0_5 : Kd.C k59 w A0_5 l0_5.length l0_5) (hc0_5 : l0_5.length ≤ c0_5) (hr1_4 : Kd.C (Kd.int .i64) w A1_4 l1_4.length l1_4) (hc1_4 : l1_4.length ≤ c1_4) (hr1_5 : Kd.C k59 w A1_5 l1_5.length l1_5) (hc1_5 : l1_5.length ≤ c1_5) (h : headgateref18_SameReply.f k a0_0 a0_1 a0_2 a0_3 l0_4 l0_5 a1_0 a1_1 a1_2 a1_3 l1_4 l1_5 = some r) :
    Calls Try.prog 14 #[.agg #[.int .i64 a0_0, .int .i64 a0_1, .int .i64 a0_2, .int .i64 a0_3, .slice A0_4 l0_4.length c0_4, .slice A0_5 l0_5.length c0_5], .agg #[.int .i64 a1_0, .int .i64 a1_1, .int .i64 a1_2, .int .i64 a1_3, .slice A1_4 l1_4.length c1_4, .slice A1_5 l1_5.length c1_5]] w fun e w' => e = .returned (.bool r) ∧ Below w.heap.size w w' := by
 have hu26 := Try.underlying26
 have hu59 := Try.underlying59
 have HR0_4 := Aside0.mk hr0_4
 have HC0_4 := Aside0.mk hc0_4
 clear hr0_4 hc0_4
 have HR0_5 := Aside0.mk hr0_5
 have HC0_5 := Aside0.mk hc0_5
 clear hr0_5 hc0_5
 have HR1_4 := Aside0.mk hr1_4
 have HC1_4 := Aside0.mk hc1_4
 clear hr1_4 hc1_4
 have HR1_5 := Aside0.mk hr1_5
 have HC1_5 := Aside0.mk hc1_5
 clear hr1_5 hc1_5
 have HB := Aside0.mk (Below.refl w.heap.size w)
 have H : (if a0_0 = a1_0 then (if a0_1 = a1_1 then (if a0_2 = a1_2 then (if a0_3 = a1_3 then ((headgateref01_Same.f k l0_4 l1_4).bind fun t337 => (if t337 = true then (headgateref18_SameReply.j0 k ((l0_5.length : Int) != (l1_5.length : Int)) a0_0 a0_1 a0_2 a0_3 l0_4 l0_5 a1_0 a1_1 a1_2 a1_3 l1_4 l1_5) else (headgateref18_SameReply.j0 k true a0_0 a0_1 a0_2 a0_3 l0_4 l0_5 a1_0 a1_1 a1_2 a1_3 l1_4 l1_5))) else (headgateref18_SameReply.j0 k true a0_0 a0_1 a0_2 a0_3 l0_4 l0_5 a1_0 a1_1 a1_2 a1_3 l1_4 l1_5)) else (headgateref18_SameReply.j0 k true a0_0 a0_1 a0_2 a0_3 l0_4 l0_5 a1_0 a1_1 a1_2 a1_3 l1_4 l1_5)) else (headgateref18_SameReply.j0 k true a0_0 a0_1 a0_2 a0_3 l0_4 l0_5 a1_0 a1_1 a1_2 a1_3 l1_4 l1_5)) else (headgateref18_SameReply.j0 k true a0_0 a0_1 a0_2 a0_3 l0_4 l0_5 a1_0 a1_1 a1_2 a1_3 l1_4 l1_5)) = some r := h
 clear h
 have HC3 := Aside0.mk H
 clear H
 go_enter Try.func14, Try.ntmps14
 go_upto_region 1 with (first | ((with_reducible refine gate_dst (N := 2) rfl ?_); (try (refine gate_guard (by rfl) ?_; dsimp only)); refine box_event ?hg (N := 2) ?hd (cs := #[.int .i64 a0_0, .int .i64 a0_1, .int .i64 a0_2, .int .i64 a0_3, .slice A0_4 l0_4.length c0_4, .slice A0_5 l0_5.length c0_5]) (t := 26) ?hr ?_; (case hd => rfl); (case hg => rfl); (case hr => first | (go_simp; done) | (go_simp; rfl)); intro gb335 hg w4 hbox hb; have BK335 := Aside0.mk (hbox); have GW335 := Aside0.mk (Zz.ge hg HB.out); have GE335 := Aside0.mk (Zz.ge hg HB.out); replace HB := Aside0.mk (below_step (Zz.i HB.out) hb); clear hb hbox hg) | ((with_reducible refine gate_dst (N := 3) rfl ?_); (try (refine gate_guard (by rfl) ?_; dsimp only)); refine box_event ?hg (N := 3) ?hd (cs := #[.int .i64 a1_0, .int .i64 a1_1, .int .i64 a1_2, .int .i64 a1_3, .slice A1_4 l1_4.length c1_4, .slice A1_5 l1_5.length c1_5]) (t := 26) ?hr ?_; (case hd => rfl); (case hg => rfl); (case hr => first | (go_simp; done) | (go_simp; rfl)); intro gb336 hg w5 hbox hb; have BK336 := Aside0.mk (hbox); have GW336 := Aside0.mk (Zz.ge hg HB.out); have GE336 := Aside0.mk (Zz.ge hg HB.out); replace HB := Aside0.mk (below_step (Zz.i HB.out) hb); have NB335_336 := Aside0.mk (Zz.nl hg BK335.out); have NB336_335 := Aside0.mk (Zz.ng hg BK335.out); replace BK335 := Aside0.mk (Zz.bb BK335.out hb); clear hb hbox hg))
 repeat (go_quiet (first | ((with_reducible refine gate_dst (N := 2) rfl ?_); (try (refine gate_guard (by rfl) ?_; dsimp only)); refine box_event ?hg (N := 2) ?hd (cs := #[.int .i64 a0_0, .int .i64 a0_1, .int .i64 a0_2, .int .i64 a0_3, .slice A0_4 l0_4.length c0_4, .slice A0_5 l0_5.length c0_5]) (t := 26) ?hr ?_; (case hd => rfl); (case hg => rfl); (case hr => first | (go_simp; done) | (go_simp; rfl)); intro gb335 hg w4 hbox hb; have BK335 := Aside0.mk (hbox); have GW335 := Aside0.mk (Zz.ge hg HB.out); have GE335 := Aside0.mk (Zz.ge hg HB.out); replace HB := Aside0.mk (below_step (Zz.i HB.out) hb); clear hb hbox hg) | ((with_reducible refine gate_dst (N := 3) rfl ?_); (try (refine gate_guard (by rfl) ?_; dsimp only)); refine box_event ?hg (N := 3) ?hd (cs := #[.int .i64 a1_0, .int .i64 a1_1, .int .i64 a1_2, .int .i64 a1_3, .slice A1_4 l1_4.length c1_4, .slice A1_5 l1_5.length c1_5]) (t := 26) ?hr ?_; (case hd => rfl); (case hg => rfl); (case hr => first | (go_simp; done) | (go_simp; rfl)); intro gb336 hg w5 hbox hb; have BK336 := Aside0.mk (hbox); have GW336 := Aside0.mk (Zz.ge hg HB.out); have GE336 := Aside0.mk (Zz.ge hg HB.out); replace HB := Aside0.mk (below_step (Zz.i HB.out) hb); have NB335_336 := Aside0.mk (Zz.nl hg BK335.out); have NB336_335 := Aside0.mk (Zz.ng hg BK335.out); replace BK335 := Aside0.mk (Zz.bb BK335.out hb); clear hb hbox hg)); go_upto_region 1 with (first | ((with_reducible refine gate_dst (N := 2) rfl ?_); (try (refine gate_guard (by rfl) ?_; dsimp only)); refine box_event ?hg (N := 2) ?hd (cs := #[.int .i64 a0_0, .int .i64 a0_1, .int .i64 a0_2, .int .i64 a0_3, .slice A0_4 l0_4.length c0_4, .slice A0_5 l0_5.length c0_5]) (t := 26) ?hr ?_; (case hd => rfl); (case hg => rfl); (case hr => first | (go_simp; done) | (go_simp; rfl)); intro gb335 hg w4 hbox hb; have BK335 := Aside0.mk (hbox); have GW335 := Aside0.mk (Zz.ge hg HB.out); have GE335 := Aside0.mk (Zz.ge hg HB.out); replace HB := Aside0.mk (below_step (Zz.i HB.out) hb); clear hb hbox hg) | ((with_reducible refine gate_dst (N := 3) rfl ?_); (try (refine gate_guard (by rfl) ?_; dsimp only)); refine box_event ?hg (N := 3) ?hd (cs := #[.int .i64 a1_0, .int .i64 a1_1, .int .i64 a1_2, .int .i64 a1_3, .slice A1_4 l1_4.length c1_4, .slice A1_5 l1_5.length c1_5]) (t := 26) ?hr ?_; (case hd => rfl); (case hg => rfl); (case hr => first | (go_simp; done) | (go_simp; rfl)); intro gb336 hg w5 hbox hb; have BK336 := Aside0.mk (hbox); have GW336 := Aside0.mk (Zz.ge hg HB.out); have GE336 := Aside0.mk (Zz.ge hg HB.out); replace HB := Aside0.mk (below_step (Zz.i HB.out) hb); have NB335_336 := Aside0.mk (Zz.nl hg BK335.out); have NB336_335 := Aside0.mk (Zz.ng hg BK335.out); replace BK335 := Aside0.mk (Zz.bb BK335.out hb); clear hb hbox hg)))
 (try simp only [Act.put, List.setIfInBounds_toArray, List.set_cons_zero, List.set_cons_succ])
 go_cut [48] (fun v48 wc => ∃ (kq : Nat) (x48_2 : Bool), v48 = .bool x48_2 ∧ Aside0 (headgateref18_SameReply.j0 kq x48_2 a0_0 a0_1 a0_2 a0_3 l0_4 l0_5 a1_0 a1_1 a1_2 a1_3 l1_4 l1_5 = some r) ∧ Aside0 (kq ≤ k) ∧ Aside0 (wc.heap[gb335]? = some (.cells #[.int .i64 a0_0, .int .i64 a0_1, .int .i64 a0_2, .int .i64 a0_3, (.slice A0_4 l0_4.length c0_4), (.slice A0_5 l0_5.length c0_5)] 26 (0, 0))) ∧ Aside0 (wc.heap[gb336]? = some (.cells #[.int .i64 a1_0, .int .i64 a1_1, .int .i64 a1_2, .int .i64 a1_3, (.slice A1_4 l1_4.length c1_4), (.slice A1_5 l1_5.length c1_5)] 26 (0, 0))) ∧ Aside0 (Below w.heap.size w wc))
 case first =>
  have H := HC3.out
  clear HC3
  by_cases c6 : a0_0 = a1_0
  ·rw [if_pos c6] at H
   have c6b0 : (a0_0 == a1_0) = true := beq_iff_eq.mpr c6
   have c6b1 : (a0_0 != a1_0) = false := bne_eq_false_iff_eq.mpr c6
   clear c6
   (first | rw [c6b0] | rw [c6b9] | (simp only [i64_w, i32_w]; rw [c6b0]) | skip)
   by_cases c7 : a0_1 = a1_1
   ·rw [if_pos c7] at H
    have c7b0 : (a0_1 == a1_1) = true := beq_iff_eq.mpr c7
    have c7b1 : (a0_1 != a1_1) = false := bne_eq_false_iff_eq.mpr c7
    clear c7
    by_cases c8 : a0_2 = a1_2
    ·rw [if_pos c8] at H
     have c8b0 : (a0_2 == a1_2) = true := beq_iff_eq.mpr c8
     have c8b1 : (a0_2 != a1_2) = false := bne_eq_false_iff_eq.mpr c8
     clear c8
     by_cases c9 : a0_3 = a1_3
     ·rw [if_pos c9] at H
      have c9b0 : (a0_3 == a1_3) = true := beq_iff_eq.mpr c9
      have c9b1 : (a0_3 != a1_3) = false := bne_eq_false_iff_eq.mpr c9
      clear c9
      replace H := Option.bind_eq_some_iff.mp H
      obtain ⟨t337, A100, H⟩ := H
      replace H : (if t337 = true then (headgateref18_SameReply.j0 k ((l0_5.length : Int) != (l1_5.length : Int)) a0_0 a0_1 a0_2 a0_3 l0_4 l0_5 a1_0 a1_1 a1_2 a1_3 l1_4 l1_5) else (headgateref18_SameReply.j0 k true a0_0 a0_1 a0_2 a0_3 l0_4 l0_5 a1_0 a1_1 a1_2 a1_3 l1_4 l1_5)) = some r := H
      have A10 := Aside0.mk A100
      clear A100
      by_cases c11 : t337 = true
      ·subst c11
       have H1 : (headgateref18_SameReply.j0 k ((l0_5.length : Int) != (l1_5.length : Int)) a0_0 a0_1 a0_2 a0_3 l0_4 l0_5 a1_0 a1_1 a1_2 a1_3 l1_4 l1_5) = some r := by rw [if_pos rfl] at H; exact H
       clear H
       have H := H1
       clear H1
       have H' := Aside0.mk H
       clear H
       have hnb12 := NB335_336.out
       have hnc12 := NB336_335.out
       have hcz13 := Zz.c6 BK335.out
       have hfz13 := blk_frozen BK335.out
       have hcz14 := Zz.c6 BK336.out
       have hfz14 := blk_frozen BK336.out
       go_wp2_with (first | (go_at_call 37; (with_reducible refine (headgateref01_Same.calls k _ _ l0_4 _ _ l1_4 true _ ?side1 ?side2 ?side3 ?side4 A10.out).mono ?_); (case side1 => exact Zz.k (Kd.C_below HR0_4.out HB.out)); (case side2 => exact HC0_4.out); (case side3 => exact Zz.k (Kd.C_below HR1_4.out HB.out)); (case side4 => exact HC1_4.out); rintro e w' ⟨rfl, ⟨nd, rfl⟩⟩; (try first | exact ⟨rfl, _, World.drewN_drewN _ _ _⟩ | exact ⟨rfl, _, Eq.trans (World.drewN_drewN _ _ _) (congrArg (World.drewN _) (Nat.add_assoc _ _ _))⟩)))
       repeat (go_quiet (first | (go_at_call 37; (with_reducible refine (headgateref01_Same.calls k _ _ l0_4 _ _ l1_4 true _ ?side1 ?side2 ?side3 ?side4 A10.out).mono ?_); (case side1 => exact Zz.k (Kd.C_below HR0_4.out HB.out)); (case side2 => exact HC0_4.out); (case side3 => exact Zz.k (Kd.C_below HR1_4.out HB.out)); (case side4 => exact HC1_4.out); rintro e w' ⟨rfl, ⟨nd, rfl⟩⟩; (try first | exact ⟨rfl, _, World.drewN_drewN _ _ _⟩ | exact ⟨rfl, _, Eq.trans (World.drewN_drewN _ _ _) (congrArg (World.drewN _) (Nat.add_assoc _ _ _))⟩))); try go_wp2_with (first | (go_at_call 37; (with_reducible refine (headgateref01_Same.calls k _ _ l0_4 _ _ l1_4 true _ ?side1 ?side2 ?side3 ?side4 A10.out).mono ?_); (case side1 => exact Zz.k (Kd.C_below HR0_4.out HB.out)); (case side2 => exact HC0_4.out); (case side3 => exact Zz.k (Kd.C_below HR1_4.out HB.out)); (case side4 => exact HC1_4.out); rintro e w' ⟨rfl, ⟨nd, rfl⟩⟩; (try first | exact ⟨rfl, _, World.drewN_drewN _ _ _⟩ | exact ⟨rfl, _, Eq.trans (World.drewN_drewN _ _ _) (congrArg (World.drewN _) (Nat.add_assoc _ _ _))⟩))))
       go_meet
       case rel => exact ⟨_, (((l0_5.length : Int) != (l1_5.length : Int))), Zz.q, H', ⟨by first | omega | exact Nat.le_refl _⟩, ⟨Zz.p BK335.out⟩, ⟨Zz.p BK336.out⟩, ⟨by repeat (first | (with_reducible first | exact HB.out | apply below_alloc | apply pw_below_drewN | apply below_drew1 | refine below_set ?_ GE335.out | refine below_set ?_ GE336.out) | exact HB.out)⟩⟩
      replace c11 := Bool.eq_false_iff.mpr c11
      subst c11
      have H1 : (headgateref18_SameReply.j0 k true a0_0 a0_1 a0_2 a0_3 l0_4 l0_5 a1_0 a1_1 a1_2 a1_3 l1_4 l1_5) = some r := by rw [if_neg (show ¬ (false = true) by decide)] at H; exact H
      clear H
      have H := H1
      clear H1
      have H' := Aside0.mk H
      clear H
      have hnb15 := NB335_336.out
      have hnc15 := NB336_335.out
      have hcz16 := Zz.c6 BK335.out
      have hfz16 := blk_frozen BK335.out
      have hcz17 := Zz.c6 BK336.out
      have hfz17 := blk_frozen BK336.out
      go_wp2_with (first | (go_at_call 37; (with_reducible refine (headgateref01_Same.calls k _ _ l0_4 _ _ l1_4 false _ ?side1 ?side2 ?side3 ?side4 A10.out).mono ?_); (case side1 => exact Zz.k (Kd.C_below HR0_4.out HB.out)); (case side2 => exact HC0_4.out); (case side3 => exact Zz.k (Kd.C_below HR1_4.out HB.out)); (case side4 => exact HC1_4.out); rintro e w' ⟨rfl, ⟨nd, rfl⟩⟩; (try first | exact ⟨rfl, _, World.drewN_drewN _ _ _⟩ | exact ⟨rfl, _, Eq.trans (World.drewN_drewN _ _ _) (congrArg (World.drewN _) (Nat.add_assoc _ _ _))⟩)))
      repeat (go_quiet (first | (go_at_call 37; (with_reducible refine (headgateref01_Same.calls k _ _ l0_4 _ _ l1_4 false _ ?side1 ?side2 ?side3 ?side4 A10.out).mono ?_); (case side1 => exact Zz.k (Kd.C_below HR0_4.out HB.out)); (case side2 => exact HC0_4.out); (case side3 => exact Zz.k (Kd.C_below HR1_4.out HB.out)); (case side4 => exact HC1_4.out); rintro e w' ⟨rfl, ⟨nd, rfl⟩⟩; (try first | exact ⟨rfl, _, World.drewN_drewN _ _ _⟩ | exact ⟨rfl, _, Eq.trans (World.drewN_drewN _ _ _) (congrArg (World.drewN _) (Nat.add_assoc _ _ _))⟩))); try go_wp2_with (first | (go_at_call 37; (with_reducible refine (headgateref01_Same.calls k _ _ l0_4 _ _ l1_4 false _ ?side1 ?side2 ?side3 ?side4 A10.out).mono ?_); (case side1 => exact Zz.k (Kd.C_below HR0_4.out HB.out)); (case side2 => exact HC0_4.out); (case side3 => exact Zz.k (Kd.C_below HR1_4.out HB.out)); (case side4 => exact HC1_4.out); rintro e w' ⟨rfl, ⟨nd, rfl⟩⟩; (try first | exact ⟨rfl, _, World.drewN_drewN _ _ _⟩ | exact ⟨rfl, _, Eq.trans (World.drewN_drewN _ _ _) (congrArg (World.drewN _) (Nat.add_assoc _ _ _))⟩))))
      go_meet
      case rel => exact ⟨_, (true), Zz.q, H', ⟨by first | omega | exact Nat.le_refl _⟩, ⟨Zz.p BK335.out⟩, ⟨Zz.p BK336.out⟩, ⟨by repeat (first | (with_reducible first | exact HB.out | apply below_alloc | apply pw_below_drewN | apply below_drew1 | refine below_set ?_ GE335.out | refine below_set ?_ GE336.out) | exact HB.out)⟩⟩
     rw [if_neg c9] at H
     have c9b0 : (a0_3 == a1_3) = false := beq_eq_false_iff_ne.mpr c9
     have c9b1 : (a0_3 != a1_3) = true := bne_iff_ne.mpr c9
     have H' := Aside0.mk H
     clear H
     have hnb18 := NB335_336.out
     have hnc18 := NB336_335.out
     have hcz19 := Zz.c6 BK335.out
     have hfz19 := blk_frozen BK335.out
     have hcz20 := Zz.c6 BK336.out
     have hfz20 := blk_frozen BK336.out
     go_wp2
     repeat (go_quiet (fail); try go_wp2)
     go_meet
     case rel => exact ⟨_, (true), Zz.q, H', ⟨by first | omega | exact Nat.le_refl _⟩, ⟨Zz.p BK335.out⟩, ⟨Zz.p BK336.out⟩, ⟨by repeat (first | (with_reducible first | exact HB.out | apply below_alloc | apply pw_below_drewN | apply below_drew1 | refine below_set ?_ GE335.out | refine below_set ?_ GE336.out) | exact HB.out)⟩⟩
    rw [if_neg c8] at H
    have c8b0 : (a0_2 == a1_2) = false := beq_eq_false_iff_ne.mpr c8
    have c8b1 : (a0_2 != a1_2) = true := bne_iff_ne.mpr c8
    have H' := Aside0.mk H
    clear H
    have hnb21 := NB335_336.out
    have hnc21 := NB336_335.out
    have hcz22 := Zz.c6 BK335.out
    have hfz22 := blk_frozen BK335.out
    have hcz23 := Zz.c6 BK336.out
    have hfz23 := blk_frozen BK336.out
    go_wp2
    repeat (go_quiet (fail); try go_wp2)
    go_meet
    case rel => exact ⟨_, (true), Zz.q, H', ⟨by first | omega | exact Nat.le_refl _⟩, ⟨Zz.p BK335.out⟩, ⟨Zz.p BK336.out⟩, ⟨by repeat (first | (with_reducible first | exact HB.out | apply below_alloc | apply pw_below_drewN | apply below_drew1 | refine below_set ?_ GE335.out | refine below_set ?_ GE336.out) | exact HB.out)⟩⟩
   rw [if_neg c7] at H
   have c7b0 : (a0_1 == a1_1) = false := beq_eq_false_iff_ne.mpr c7
   have c7b1 : (a0_1 != a1_1) = true := bne_iff_ne.mpr c7
   have H' := Aside0.mk H
   clear H
   have hnb24 := NB335_336.out
   have hnc24 := NB336_335.out
   have hcz25 := Zz.c6 BK335.out
   have hfz25 := blk_frozen BK335.out
   have hcz26 := Zz.c6 BK336.out
   have hfz26 := blk_frozen BK336.out
   go_wp2
   repeat (go_quiet (fail); try go_wp2)
   go_meet
   case rel => exact ⟨_, (true), Zz.q, H', ⟨by first | omega | exact Nat.le_refl _⟩, ⟨Zz.p BK335.out⟩, ⟨Zz.p BK336.out⟩, ⟨by repeat (first | (with_reducible first | exact HB.out | apply below_alloc | apply pw_below_drewN | apply below_drew1 | refine below_set ?_ GE335.out | refine below_set ?_ GE336.out) | exact HB.out)⟩⟩
  rw [if_neg c6] at H
  have c6b0 : (a0_0 == a1_0) = false := beq_eq_false_iff_ne.mpr c6
  have c6b1 : (a0_0 != a1_0) = true := bne_iff_ne.mpr c6
  (first | rw [c6b0] | rw [c6b9] | (simp only [i64_w, i32_w]; rw [c6b0]) | skip)
  have H' := Aside0.mk H
  clear H
  have hnb27 := NB335_336.out
  have hnc27 := NB336_335.out
  have hcz28 := Zz.c6 BK335.out
  have hfz28 := blk_frozen BK335.out
  have hcz29 := Zz.c6 BK336.out
  have hfz29 := blk_frozen BK336.out
  go_wp2
  repeat (go_quiet (fail); try go_wp2)
  go_meet
  case rel => exact ⟨_, (true), Zz.q, H', ⟨by first | omega | exact Nat.le_refl _⟩, ⟨Zz.p BK335.out⟩, ⟨Zz.p BK336.out⟩, ⟨by repeat (first | (with_reducible first | exact HB.out | apply below_alloc | apply pw_below_drewN | apply below_drew1 | refine below_set ?_ GE335.out | refine below_set ?_ GE336.out) | exact HB.out)⟩⟩
 clear HC3
 (try clear c1);(try clear c2);(try clear p2);(try clear c6);(try clear c6b0);(try clear c6b1);(try clear c7);(try clear c7b0);(try clear c7b1);(try clear c8);(try clear c8b0);(try clear c8b1);(try clear c9);(try clear c9b0);(try clear c9b1);(try clear c11);(try clear c12);(try clear c14);(try clear c15);(try clear c18);(try clear c21);(try clear c24);(try clear c27);(try clear hcz13);(try clear hcz14);(try clear hcz16);(try clear hcz17);(try clear hcz19);(try clear hcz20);(try clear hcz22);(try clear hcz23);(try clear hcz25);(try clear hcz26);(try clear hcz28);(try clear hcz29);(try clear hfz13);(try clear hfz14);(try clear hfz16);(try clear hfz17);(try clear hfz19);(try clear hfz20);(try clear hfz22);(try clear hfz23);(try clear hfz25);(try clear hfz26);(try clear hfz28);(try clear hfz29)
 obtain ⟨kq, x48_2, rfl, HA, HJ2, BK335, BK336, HB⟩ := hcut
 cases kq with
 | zero => exact absurd HA.out (by simp [headgateref18_SameReply.j0])
 | succ kj2 =>
  have H := HA.out
  clear HA
  simp only [headgateref18_SameReply.j0] at H
  by_cases c30 : x48_2 = true
  ·subst c30
   have H1 : (some false) = some r := by rw [if_pos rfl] at H; exact H
   clear H
   have H := H1
   clear H1
   obtain rfl := Option.some.inj H
   go_wp2
   repeat (go_quiet (fail); try go_wp2)
   go_ret
   exact ⟨by first | rfl | (simp [errW_none, errW_some] <;> rfl) | (simp [*, errW_none, errW_some] <;> rfl), by repeat (first | (with_reducible first | exact HB.out | apply below_alloc | apply pw_below_drewN | apply below_drew1 | refine below_set ?_ GE335.out | refine below_set ?_ GE336.out) | exact HB.out)⟩
  replace c30 := Bool.eq_false_iff.mpr c30
  subst c30
  have H1 : (headgateref18_SameReply.l0 kj2 0 a0_0 a0_1 a0_2 a0_3 l0_4 l0_5 a1_0 a1_1 a1_2 a1_3 l1_4 l1_5) = some r := by rw [if_neg (show ¬ (false = true) by decide)] at H; exact H
  clear H
  have H := H1
  clear H1
  have H' := Aside0.mk H
  clear H
  go_wp2
  repeat (go_quiet (fail); try go_wp2)
  go_loopg [5] kj2 (fun kq v5 w' => ∃ (x5_2 : Int), v5 = .int .i64 x5_2 ∧ Aside0 (headgateref18_SameReply.l0 kq x5_2 a0_0 a0_1 a0_2 a0_3 l0_4 l0_5 a1_0 a1_1 a1_2 a1_3 l1_4 l1_5 = some r) ∧ Aside0 (kq ≤ kj2) ∧ Aside0 (w'.heap[gb335]? = some (.cells #[.int .i64 a0_0, .int .i64 a0_1, .int .i64 a0_2, .int .i64 a0_3, (.slice A0_4 l0_4.length c0_4), (.slice A0_5 l0_5.length c0_5)] 26 (0, 0))) ∧ Aside0 (w'.heap[gb336]? = some (.cells #[.int .i64 a1_0, .int .i64 a1_1, .int .i64 a1_2, .int .i64 a1_3, (.slice A1_4 l1_4.length c1_4), (.slice A1_5 l1_5.length c1_5)] 26 (0, 0))) ∧ Aside0 (Below w.heap.size w w'))
  case atStart => exact ⟨(0), Zz.q, H', ⟨Nat.le_refl _⟩, ⟨Zz.p BK335.out⟩, ⟨Zz.p BK336.out⟩, ⟨by repeat (first | (with_reducible first | exact HB.out | apply below_alloc | apply pw_below_drewN | apply below_drew1 | refine below_set ?_ GE335.out | refine below_set ?_ GE336.out) | exact HB.out)⟩⟩
  case round =>
   clear H'
   (try clear c1);(try clear c2);(try clear p2);(try clear c3);(try clear c6);(try clear c6b0);(try clear c6b1);(try clear c7);(try clear c7b0);(try clear c7b1);(try clear c8);(try clear c8b0);(try clear c8b1);(try clear c9);(try clear c9b0);(try clear c9b1);(try clear c11);(try clear c12);(try clear c14);(try clear c15);(try clear c18);(try clear c21);(try clear c24);(try clear c27);(try clear c30);(try clear hcz13);(try clear hcz14);(try clear hcz16);(try clear hcz17);(try clear hcz19);(try clear hcz20);(try clear hcz22);(try clear hcz23);(try clear hcz25);(try clear hcz26);(try clear hcz28);(try clear hcz29);(try clear hfz13);(try clear hfz14);(try clear hfz16);(try clear hfz17);(try clear hfz19);(try clear hfz20);(try clear hfz22);(try clear hfz23);(try clear hfz25);(try clear hfz26);(try clear hfz28);(try clear hfz29)
   obtain ⟨x5_2, rfl, HA, HK2, BK335, BK336, HB⟩ := hrel
   cases gk with
   | zero => exact absurd HA.out (by simp [headgateref18_SameReply.l0])
   | succ k2 =>
    have H := HA.out
    clear HA
    simp only [headgateref18_SameReply.l0] at H
    by_cases c31 : x5_2 < (l0_5.length : Int)
    ·rw [if_pos c31] at H
     have c31b0 : decide (x5_2 < (l0_5.length : Int)) = true := decide_eq_true c31
     clear c31
     by_cases c32 : 0 ≤ x5_2
     ·rw [if_pos c32] at H
      have c32b0 : decide (0 ≤ x5_2) = true := decide_eq_true c32
      clear c32
      by_cases c33 : x5_2 < (l1_5.length : Int)
      ·rw [if_pos c33] at H
       have c33b0 : decide (x5_2 < (l1_5.length : Int)) = true := decide_eq_true c33
       clear c33
       by_cases c34 : (!(((rd_T59 l0_5 x5_2).f0) == ((rd_T59 l1_5 x5_2).f0)) || ((!(((rd_T59 l0_5 x5_2).f1.f0) == ((rd_T59 l1_5 x5_2).f1.f0)) || (!(((rd_T59 l0_5 x5_2).f1.f1) == ((rd_T59 l1_5 x5_2).f1.f1)) || (!((((rd_T59 l0_5 x5_2).f1.f2).toList) == (((rd_T59 l1_5 x5_2).f1.f2).toList))))))) = true
       ·rw [if_pos c34] at H
        have c34b0 : (!(((rd_T59 l0_5 x5_2).f0) == ((rd_T59 l1_5 x5_2).f0)) || ((!(((rd_T59 l0_5 x5_2).f1.f0) == ((rd_T59 l1_5 x5_2).f1.f0)) || (!(((rd_T59 l0_5 x5_2).f1.f1) == ((rd_T59 l1_5 x5_2).f1.f1)) || (!((((rd_T59 l0_5 x5_2).f1.f2).toList) == (((rd_T59 l1_5 x5_2).f1.f2).toList))))))) = true := c34
        clear c34
        obtain rfl := Option.some.inj H
        have hnb35 := NB335_336.out
        have hnc35 := NB336_335.out
        have hcz36 := Zz.c6 BK335.out
        have hfz36 := blk_frozen BK335.out
        have p338 : 0 ≤ (x5_2 : Int) := of_decide_eq_true (by first | (with_reducible assumption) | assumption)
        have q338 : x5_2 < (l0_5.length : Int) := of_decide_eq_true (by first | (with_reducible assumption) | assumption)
        obtain ⟨ad338, e338, hx338_0, hx338_1, hx338_2, hx338_3⟩ := at_T59 HR0_5.out x5_2 p338 q338
        cases e338
        replace hx338_0 := (HB.out.cell (World.block_lt_of_cell? w _ hx338_0)).trans hx338_0
        replace hx338_1 := (HB.out.cell (World.block_lt_of_cell? w _ hx338_1)).trans hx338_1
        replace hx338_2 := (HB.out.cell (World.block_lt_of_cell? w _ hx338_2)).trans hx338_2
        replace hx338_3 := (HB.out.cell (World.block_lt_of_cell? w _ hx338_3)).trans hx338_3
        replace p338 := eq_true p338
        replace q338 := eq_true q338
        have hcz37 := Zz.c6 BK336.out
        have hfz37 := blk_frozen BK336.out
        have p339 : 0 ≤ (x5_2 : Int) := of_decide_eq_true (by first | (with_reducible assumption) | assumption)
        have q339 : x5_2 < (l1_5.length : Int) := of_decide_eq_true (by first | (with_reducible assumption) | assumption)
        obtain ⟨ad339, e339, hx339_0, hx339_1, hx339_2, hx339_3⟩ := at_T59 HR1_5.out x5_2 p339 q339
        cases e339
        replace hx339_0 := (HB.out.cell (World.block_lt_of_cell? w _ hx339_0)).trans hx339_0
        replace hx339_1 := (HB.out.cell (World.block_lt_of_cell? w _ hx339_1)).trans hx339_1
        replace hx339_2 := (HB.out.cell (World.block_lt_of_cell? w _ hx339_2)).trans hx339_2
        replace hx339_3 := (HB.out.cell (World.block_lt_of_cell? w _ hx339_3)).trans hx339_3
        replace p339 := eq_true p339
        replace q339 := eq_true q339
        go_wp2
        repeat (go_quiet (fail); try go_wp2)
        go_ret
        exact ⟨by first | rfl | (simp [errW_none, errW_some] <;> rfl) | (simp [*, errW_none, errW_some] <;> rfl), by repeat (first | (with_reducible first | exact HB.out | apply below_alloc | apply pw_below_drewN | apply below_drew1 | refine below_set ?_ GE335.out | refine below_set ?_ GE336.out) | exact HB.out)⟩
       rw [if_neg c34] at H
       have c34b0 : (!(((rd_T59 l0_5 x5_2).f0) == ((rd_T59 l1_5 x5_2).f0)) || ((!(((rd_T59 l0_5 x5_2).f1.f0) == ((rd_T59 l1_5 x5_2).f1.f0)) || (!(((rd_T59 l0_5 x5_2).f1.f1) == ((rd_T59 l1_5 x5_2).f1.f1)) || (!((((rd_T59 l0_5 x5_2).f1.f2).toList) == (((rd_T59 l1_5 x5_2).f1.f2).toList))))))) = false := by simpa using c34
       clear c34
       have H' := Aside0.mk H
       clear H
       have hnb38 := NB335_336.out
       have hnc38 := NB336_335.out
       have hcz39 := Zz.c6 BK335.out
       have hfz39 := blk_frozen BK335.out
       have p338 : 0 ≤ (x5_2 : Int) := of_decide_eq_true (by first | (with_reducible assumption) | assumption)
       have q338 : x5_2 < (l0_5.length : Int) := of_decide_eq_true (by first | (with_reducible assumption) | assumption)
       obtain ⟨ad338, e338, hx338_0, hx338_1, hx338_2, hx338_3⟩ := at_T59 HR0_5.out x5_2 p338 q338
       cases e338
       replace hx338_0 := (HB.out.cell (World.block_lt_of_cell? w _ hx338_0)).trans hx338_0
       replace hx338_1 := (HB.out.cell (World.block_lt_of_cell? w _ hx338_1)).trans hx338_1
       replace hx338_2 := (HB.out.cell (World.block_lt_of_cell? w _ hx338_2)).trans hx338_2
       replace hx338_3 := (HB.out.cell (World.block_lt_of_cell? w _ hx338_3)).trans hx338_3
       replace p338 := eq_true p338
       replace q338 := eq_true q338
       have hcz40 := Zz.c6 BK336.out
       have hfz40 := blk_frozen BK336.out
       have p339 : 0 ≤ (x5_2 : Int) := of_decide_eq_true (by first | (with_reducible assumption) | assumption)
       have q339 : x5_2 < (l1_5.length : Int) := of_decide_eq_true (by first | (with_reducible assumption) | assumption)
       obtain ⟨ad339, e339, hx339_0, hx339_1, hx339_2, hx339_3⟩ := at_T59 HR1_5.out x5_2 p339 q339
       cases e339
       replace hx339_0 := (HB.out.cell (World.block_lt_of_cell? w _ hx339_0)).trans hx339_0
       replace hx339_1 := (HB.out.cell (World.block_lt_of_cell? w _ hx339_1)).trans hx339_1
       replace hx339_2 := (HB.out.cell (World.block_lt_of_cell? w _ hx339_2)).trans hx339_2
       replace hx339_3 := (HB.out.cell (World.block_lt_of_cell? w _ hx339_3)).trans hx339_3
       replace p339 := eq_true p339
       replace q339 := eq_true q339
       go_wp2
       repeat (go_quiet (fail); try go_wp2)
       go_roundg k2
       case measure => have := HJ2.out; have := HK2.out; omega
       case rel => exact ⟨(wrap64 (x5_2 + 1)), Zz.q, H', ⟨by have := HJ2.out; have := HK2.out; omega⟩, ⟨Zz.p BK335.out⟩, ⟨Zz.p BK336.out⟩, ⟨by repeat (first | (with_reducible first | exact HB.out | apply below_alloc | apply pw_below_drewN | apply below_drew1 | refine below_set ?_ GE335.out | refine below_set ?_ GE336.out) | exact HB.out)⟩⟩
      rw [if_neg c33] at H
      exact absurd H (by simp)
     rw [if_neg c32] at H
     exact absurd H (by simp)
    rw [if_neg c31] at H
    have c31b0 : decide (x5_2 < (l0_5.length : Int)) = false := decide_eq_false c31
    clear c31
    obtain rfl := Option.some.inj H
    have hnb41 := NB335_336.out
    have hnc41 := NB336_335.out
    have hcz42 := Zz.c6 BK335.out
    have hfz42 := blk_frozen BK335.out
    go_wp2
    repeat (go_quiet (fail); try go_wp2)
    go_ret
    exact ⟨by first | rfl | (simp [errW_none, errW_some] <;> rfl) | (simp [*, errW_none, errW_some] <;> rfl), by repeat (first | (with_reducible first | exact HB.out | apply below_alloc | apply pw_below_drewN | apply below_drew1 | refine below_set ?_ GE335.out | refine below_set ?_ GE336.out) | exact HB.out)⟩

end Go.Proofs.Ytikbpjdgihheiaa.P
