-- Written by wip/mk.py of this repo: the kit's print program, with contracts of our own among its functions.
import Derived.Test.YtikbpjdgihheiaaPx0
import Derived.Test.YtikbpjdgihheiaaPx3
import Derived.Test.YtikbpjdgihheiaaPx8
import Derived.Test.YtikbpjdgihheiaaPx14
import Derived.Test.YtikbpjdgihheiaaPx18
import Derived.Test.YtikbpjdgihheiaaPx19
import Derived.Test.YtikbpjdgihheiaaPx23
import Derived.Test.YtikbpjdgihheiaaPx25
import Derived.Test.YtikbpjdgihheiaaZz
-- pressed
namespace Go.Proofs.Ytikbpjdgihheiaa.P
open Go.RowKit Go.Proofs.YtikbpjdgihheiaaW.PrintWords Go.Proofs.YtikbpjdgihheiaaW.PrintLast Go.Proofs.YtikbpjdgihheiaaW.PrintMore
attribute [local go_sem] max2_int min2_int max_two min_two max_three min_three max_four min_four   -- for this text's walks alone
attribute [local go_sem ↓] Kp.LDAsk_in
attribute [local go_sem] Kp.LDAsk_run
set_option linter.unusedVariables false
set_option linter.unusedSimpArgs false

/-! ### headgatelaw18_WireReplies: function 3 -/
def headgatelaw18_WireReplies.j0 : Nat → ByteArray → Bool → Int → Int → Int → Int → List Int → List (S59) → Option (Bool)
  | 0, _, _, _, _, _, _, _, _ => none
  | k + 1, x1, x20, x341000, x341001, x341002, x341003, x341004, x341005 => if x20 = true then ((headgatelaw18_awake.f k).bind fun t342 => (some t342)) else ((wire_EncodeReply.f k x341000 x341001 x341002 x341003 x341004 x341005).bind fun bt343 => ((headgateref18_EncodeReply.f k x341000 x341001 x341002 x341003 x341004 x341005).bind fun bt345 => ((wire_DecodeReply.f k x1).bind fun bt347 => ((headgateref18_DecodeReply.f k x1).bind fun bt359 => (if bt343.1.toList = bt345.1.toList then (if bt343.2 = bt345.2 then ((headgateref18_SameReply.f k bt347.1 bt347.2.1 bt347.2.2.1 bt347.2.2.2.1 bt347.2.2.2.2.1 bt347.2.2.2.2.2.1 bt359.1 bt359.2.1 bt359.2.2.1 bt359.2.2.2.1 bt359.2.2.2.2.1 bt359.2.2.2.2.2.1).bind fun t371 => (if t371 = true then (if bt347.2.2.2.2.2.2 = bt359.2.2.2.2.2.2 then ((headgatelaw18_awake.f k).bind fun t372 => (some t372)) else (some false)) else (some false))) else (some false)) else (some false))))))
def headgatelaw18_WireReplies.f (k : Nat) (a0_0 : Int) (a0_1 : Int) (a0_2 : Int) (a0_3 : Int) (l0_4 : List Int) (l0_5 : List (S59)) (a1 : ByteArray) : Option (Bool) := (headgatelaw18_light.f k a0_0 a0_1 a0_2 a0_3 l0_4 l0_5).bind fun t341 => (if t341 = true then (headgatelaw18_WireReplies.j0 k a1 (decide ((a1.size : Int) > 5000)) a0_0 a0_1 a0_2 a0_3 l0_4 l0_5) else (headgatelaw18_WireReplies.j0 k a1 true a0_0 a0_1 a0_2 a0_3 l0_4 l0_5))
theorem headgatelaw18_WireReplies.mono_l : ∀ k, (∀ y0 y1 y2 y3 y4 y5 y6 y7, LeO (headgatelaw18_WireReplies.j0 k y0 y1 y2 y3 y4 y5 y6 y7) (headgatelaw18_WireReplies.j0 (k + 1) y0 y1 y2 y3 y4 y5 y6 y7))
  | 0 => fun _ _ _ _ _ _ _ _ r h => by simp [headgatelaw18_WireReplies.j0] at h
  | k + 1 => by
    have ih0 := headgatelaw18_WireReplies.mono_l k
    · intro y0 y1 y2 y3 y4 y5 y6 y7
      unfold headgatelaw18_WireReplies.j0
      repeat' first
      | (with_reducible exact ih0 _ _ _ _ _ _ _ _)
      | (with_reducible exact headgatelaw18_awake.mono _)
      | (with_reducible exact headgatelaw18_light.mono _ _ _ _ _ _ _)
      | (with_reducible exact headgateref18_DecodeReply.mono _ _)
      | (with_reducible exact headgateref18_EncodeReply.mono _ _ _ _ _ _ _)
      | (with_reducible exact headgateref18_SameReply.mono _ _ _ _ _ _ _ _ _ _ _ _ _)
      | (with_reducible exact wire_DecodeReply.mono _ _)
      | (with_reducible exact wire_EncodeReply.mono _ _ _ _ _ _ _)
      | (with_reducible exact LeO.refl _)
      | (with_reducible exact LeO.none _)
      | (with_reducible refine LeO.ite ?_ ?_)
      | (with_reducible refine LeO.bind ?_ (fun _ => ?_))
      | exact ih0 _ _ _ _ _ _ _ _
      | exact headgatelaw18_awake.mono _
      | exact headgatelaw18_light.mono _ _ _ _ _ _ _
      | exact headgateref18_DecodeReply.mono _ _
      | exact headgateref18_EncodeReply.mono _ _ _ _ _ _ _
      | exact headgateref18_SameReply.mono _ _ _ _ _ _ _ _ _ _ _ _ _
      | exact wire_DecodeReply.mono _ _
      | exact wire_EncodeReply.mono _ _ _ _ _ _ _
      | exact LeO.none _
      | refine LeO.ite ?_ ?_
      | refine LeO.bind ?_ (fun _ => ?_)
theorem headgatelaw18_WireReplies.mono : ∀ a0 a1 a2 a3 a4 a5 a6 k, LeO (headgatelaw18_WireReplies.f k a0 a1 a2 a3 a4 a5 a6) (headgatelaw18_WireReplies.f (k + 1) a0 a1 a2 a3 a4 a5 a6) := by
  intro a0 a1 a2 a3 a4 a5 a6 k
  have ih0 := headgatelaw18_WireReplies.mono_l k
  unfold headgatelaw18_WireReplies.f
  repeat' first
      | (with_reducible exact ih0 _ _ _ _ _ _ _ _)
      | (with_reducible exact headgatelaw18_awake.mono _)
      | (with_reducible exact headgatelaw18_light.mono _ _ _ _ _ _ _)
      | (with_reducible exact headgateref18_DecodeReply.mono _ _)
      | (with_reducible exact headgateref18_EncodeReply.mono _ _ _ _ _ _ _)
      | (with_reducible exact headgateref18_SameReply.mono _ _ _ _ _ _ _ _ _ _ _ _ _)
      | (with_reducible exact wire_DecodeReply.mono _ _)
      | (with_reducible exact wire_EncodeReply.mono _ _ _ _ _ _ _)
      | (with_reducible exact LeO.refl _)
      | (with_reducible exact LeO.none _)
      | (with_reducible refine LeO.ite ?_ ?_)
      | (with_reducible refine LeO.bind ?_ (fun _ => ?_))
      | exact ih0 _ _ _ _ _ _ _ _
      | exact headgatelaw18_awake.mono _
      | exact headgatelaw18_light.mono _ _ _ _ _ _ _
      | exact headgateref18_DecodeReply.mono _ _
      | exact headgateref18_EncodeReply.mono _ _ _ _ _ _ _
      | exact headgateref18_SameReply.mono _ _ _ _ _ _ _ _ _ _ _ _ _
      | exact wire_DecodeReply.mono _ _
      | exact wire_EncodeReply.mono _ _ _ _ _ _ _
      | exact LeO.none _
      | refine LeO.ite ?_ ?_
      | refine LeO.bind ?_ (fun _ => ?_)
set_option maxHeartbeats 8000000 in
set_option maxRecDepth 100000 in
theorem headgatelaw18_WireReplies.calls (k : Nat) (a0_0 : Int) (a0_1 : Int) (a0_2 : Int) (a0_3 : Int) (A0_4 : Option Addr) (c0_4 : Nat) (l0_4 : List Int) (A0_5 : Option Addr) (c0_5 : Nat) (l0_5 : List (S59)) (a1 : ByteArray) (r : Bool) (w : World) (hr0_4 : Kd.C (Kd.int .i64) w A0_4 l0_4.length l0_4) (hc0_4 : l0_4.length ≤ c0_4) (hr0_5 : Kd.C k59 w A0_5 l0_5.length l0_5) (hc0_5 : l0_5.length ≤ c0_5) (h : headgatelaw18_WireReplies.f k a0_0 a0_1 a0_2 a0_3 l0_4 l0_5 a1 = some r) (hT_ : r = true) :
    Calls Try.prog 3 #[.agg #[.int .i64 a0_0, .int .i64 a0_1, .int .i64 a0_2, .int .i64 a0_3, .slice A0_4 l0_4.length c0_4, .slice A0_5 l0_5.length c0_5], .string a1] w fun e w' => e = .returned (.bool r) ∧ Below w.heap.size w w' := by
 have hu26 := Try.underlying26
 have HR0_4 := Aside0.mk hr0_4
 have HC0_4 := Aside0.mk hc0_4
 clear hr0_4 hc0_4
 have HR0_5 := Aside0.mk hr0_5
 have HC0_5 := Aside0.mk hc0_5
 clear hr0_5 hc0_5
 have HB := Aside0.mk (Below.refl w.heap.size w)
 have H : ((headgatelaw18_light.f k a0_0 a0_1 a0_2 a0_3 l0_4 l0_5).bind fun t341 => (if t341 = true then (headgatelaw18_WireReplies.j0 k a1 (decide ((a1.size : Int) > 5000)) a0_0 a0_1 a0_2 a0_3 l0_4 l0_5) else (headgatelaw18_WireReplies.j0 k a1 true a0_0 a0_1 a0_2 a0_3 l0_4 l0_5))) = some r := h
 clear h
 have HC3 := Aside0.mk H
 clear H
 go_enter Try.func3, Try.ntmps3
 go_upto_region 1 with (first | ((with_reducible refine gate_dst (N := 2) rfl ?_); (try (refine gate_guard (by rfl) ?_; dsimp only)); refine box_event ?hg (N := 2) ?hd (cs := #[.int .i64 a0_0, .int .i64 a0_1, .int .i64 a0_2, .int .i64 a0_3, .slice A0_4 l0_4.length c0_4, .slice A0_5 l0_5.length c0_5]) (t := 26) ?hr ?_; (case hd => rfl); (case hg => rfl); (case hr => first | (go_simp; done) | (go_simp; rfl)); intro gb340 hg w4 hbox hb; have BK340 := Aside0.mk (hbox); have GW340 := Aside0.mk (Zz.ge hg HB.out); have GE340 := Aside0.mk (Zz.ge hg HB.out); replace HB := Aside0.mk (below_step (Zz.i HB.out) hb); clear hb hbox hg))
 (try simp only [Act.put, List.setIfInBounds_toArray, List.set_cons_zero, List.set_cons_succ])
 go_cut [20] (fun v20 wc => ∃ (kq : Nat) (x20_2 : Bool), v20 = .bool x20_2 ∧ Aside0 (headgatelaw18_WireReplies.j0 kq a1 x20_2 a0_0 a0_1 a0_2 a0_3 l0_4 l0_5 = some r) ∧ Aside0 (kq ≤ k) ∧ Aside0 (wc.heap[gb340]? = some (.cells #[.int .i64 a0_0, .int .i64 a0_1, .int .i64 a0_2, .int .i64 a0_3, (.slice A0_4 l0_4.length c0_4), (.slice A0_5 l0_5.length c0_5)] 26 (0, 0))) ∧ Aside0 (Below w.heap.size w wc))
 case first =>
  have H := HC3.out
  clear HC3
  replace H := Option.bind_eq_some_iff.mp H
  obtain ⟨t341, A50, H⟩ := H
  replace H : (if t341 = true then (headgatelaw18_WireReplies.j0 k a1 (decide ((a1.size : Int) > 5000)) a0_0 a0_1 a0_2 a0_3 l0_4 l0_5) else (headgatelaw18_WireReplies.j0 k a1 true a0_0 a0_1 a0_2 a0_3 l0_4 l0_5)) = some r := H
  have A5 := Aside0.mk A50
  clear A50
  by_cases c6 : t341 = true
  ·subst c6
   have H1 : (headgatelaw18_WireReplies.j0 k a1 (decide ((a1.size : Int) > 5000)) a0_0 a0_1 a0_2 a0_3 l0_4 l0_5) = some r := by rw [if_pos rfl] at H; exact H
   clear H
   have H := H1
   clear H1
   have H' := Aside0.mk H
   clear H
   have hcz7 := Zz.c6 BK340.out
   have hfz7 := blk_frozen BK340.out
   go_wp2_with (first | ((with_reducible refine gate_callee (f := 8) rfl ?_); refine goesL_ (some 14) rfl rfl Try.func8 (by kernel_rfl) rfl #[.agg #[.int .i64 a0_0, .int .i64 a0_1, .int .i64 a0_2, .int .i64 a0_3, .slice A0_4 l0_4.length c0_4, .slice A0_5 l0_5.length c0_5]] rfl Zz.g ?_; (with_reducible refine (headgatelaw18_light.calls k a0_0 a0_1 a0_2 a0_3 _ _ l0_4 _ _ l0_5 true _ ?side1 ?side2 ?side3 ?side4 A5.out).mono ?_); (case side1 => exact Zz.k (Kd.C_below HR0_4.out HB.out)); (case side2 => exact HC0_4.out); (case side3 => exact Zz.k (Kd.C_below HR0_5.out HB.out)); (case side4 => exact HC0_5.out); rintro e w8 ⟨rfl, hb⟩; refine ⟨_, rfl, ?_⟩; replace BK340 := Aside0.mk (Zz.bb BK340.out hb); replace HB := Aside0.mk (below_step (Zz.i HB.out) hb); (try clear hb)))
   go_meet
   case rel => exact ⟨_, (decide ((a1.size : Int) > 5000)), Zz.q, H', ⟨by first | omega | exact Nat.le_refl _⟩, ⟨Zz.p BK340.out⟩, ⟨by repeat (first | (with_reducible first | exact HB.out | apply below_alloc | apply pw_below_drewN | apply below_drew1 | refine below_set ?_ GE340.out) | exact HB.out)⟩⟩
  replace c6 := Bool.eq_false_iff.mpr c6
  subst c6
  have H1 : (headgatelaw18_WireReplies.j0 k a1 true a0_0 a0_1 a0_2 a0_3 l0_4 l0_5) = some r := by rw [if_neg (show ¬ (false = true) by decide)] at H; exact H
  clear H
  have H := H1
  clear H1
  have H' := Aside0.mk H
  clear H
  have hcz9 := Zz.c6 BK340.out
  have hfz9 := blk_frozen BK340.out
  go_wp2_with (first | ((with_reducible refine gate_callee (f := 8) rfl ?_); refine goesL_ (some 14) rfl rfl Try.func8 (by kernel_rfl) rfl #[.agg #[.int .i64 a0_0, .int .i64 a0_1, .int .i64 a0_2, .int .i64 a0_3, .slice A0_4 l0_4.length c0_4, .slice A0_5 l0_5.length c0_5]] rfl Zz.g ?_; (with_reducible refine (headgatelaw18_light.calls k a0_0 a0_1 a0_2 a0_3 _ _ l0_4 _ _ l0_5 false _ ?side1 ?side2 ?side3 ?side4 A5.out).mono ?_); (case side1 => exact Zz.k (Kd.C_below HR0_4.out HB.out)); (case side2 => exact HC0_4.out); (case side3 => exact Zz.k (Kd.C_below HR0_5.out HB.out)); (case side4 => exact HC0_5.out); rintro e w10 ⟨rfl, hb⟩; refine ⟨_, rfl, ?_⟩; replace BK340 := Aside0.mk (Zz.bb BK340.out hb); replace HB := Aside0.mk (below_step (Zz.i HB.out) hb); (try clear hb)))
  go_meet
  case rel => exact ⟨_, (true), Zz.q, H', ⟨by first | omega | exact Nat.le_refl _⟩, ⟨Zz.p BK340.out⟩, ⟨by repeat (first | (with_reducible first | exact HB.out | apply below_alloc | apply pw_below_drewN | apply below_drew1 | refine below_set ?_ GE340.out) | exact HB.out)⟩⟩
 clear HC3
 (try clear p2);(try clear c3);(try clear c6);(try clear c8);(try clear hcz7);(try clear hcz9);(try clear hfz7);(try clear hfz9)
 obtain ⟨kq, x20_2, rfl, HA, HJ2, BK340, HB⟩ := hcut
 cases kq with
 | zero => exact absurd HA.out (by simp [headgatelaw18_WireReplies.j0])
 | succ kj2 =>
  have H := HA.out
  clear HA
  simp only [headgatelaw18_WireReplies.j0] at H
  by_cases c11 : x20_2 = true
  ·subst c11
   have H1 : ((headgatelaw18_awake.f kj2).bind fun t342 => (some t342)) = some r := by rw [if_pos rfl] at H; exact H
   clear H
   have H := H1
   clear H1
   replace H := Option.bind_eq_some_iff.mp H
   obtain ⟨t342, A120, H⟩ := H
   replace H : (some t342) = some r := H
   have A12 := Aside0.mk A120
   clear A120
   obtain rfl := Option.some.inj H
   go_wp2_with (first | ((with_reducible refine gate_callee (f := 9) rfl ?_); refine goesL_ (some 21) rfl rfl Try.func9 (by kernel_rfl) rfl #[] rfl Zz.g ?_; (with_reducible refine (headgatelaw18_awake.calls kj2  t342 _ A12.out).mono ?_); rintro e w13 ⟨rfl, hb⟩; refine ⟨_, rfl, ?_⟩; replace BK340 := Aside0.mk (Zz.bb BK340.out hb); replace HB := Aside0.mk (below_step (Zz.i HB.out) hb); (try clear hb)))
   go_ret
   exact ⟨by first | rfl | (simp [errW_none, errW_some] <;> rfl) | (simp [*, errW_none, errW_some] <;> rfl), by repeat (first | (with_reducible first | exact HB.out | apply below_alloc | apply pw_below_drewN | apply below_drew1 | refine below_set ?_ GE340.out) | exact HB.out)⟩
  replace c11 := Bool.eq_false_iff.mpr c11
  subst c11
  have H1 : ((wire_EncodeReply.f kj2 a0_0 a0_1 a0_2 a0_3 l0_4 l0_5).bind fun bt343 => ((headgateref18_EncodeReply.f kj2 a0_0 a0_1 a0_2 a0_3 l0_4 l0_5).bind fun bt345 => ((wire_DecodeReply.f kj2 a1).bind fun bt347 => ((headgateref18_DecodeReply.f kj2 a1).bind fun bt359 => (if bt343.1.toList = bt345.1.toList then (if bt343.2 = bt345.2 then ((headgateref18_SameReply.f kj2 bt347.1 bt347.2.1 bt347.2.2.1 bt347.2.2.2.1 bt347.2.2.2.2.1 bt347.2.2.2.2.2.1 bt359.1 bt359.2.1 bt359.2.2.1 bt359.2.2.2.1 bt359.2.2.2.2.1 bt359.2.2.2.2.2.1).bind fun t371 => (if t371 = true then (if bt347.2.2.2.2.2.2 = bt359.2.2.2.2.2.2 then ((headgatelaw18_awake.f kj2).bind fun t372 => (some t372)) else (some false)) else (some false))) else (some false)) else (some false)))))) = some r := by rw [if_neg (show ¬ (false = true) by decide)] at H; exact H
  clear H
  have H := H1
  clear H1
  replace H := Option.bind_eq_some_iff.mp H
  obtain ⟨⟨t343, t344⟩, A140, H⟩ := H
  replace H : ((headgateref18_EncodeReply.f kj2 a0_0 a0_1 a0_2 a0_3 l0_4 l0_5).bind fun bt345 => ((wire_DecodeReply.f kj2 a1).bind fun bt347 => ((headgateref18_DecodeReply.f kj2 a1).bind fun bt359 => (if t343.toList = bt345.1.toList then (if t344 = bt345.2 then ((headgateref18_SameReply.f kj2 bt347.1 bt347.2.1 bt347.2.2.1 bt347.2.2.2.1 bt347.2.2.2.2.1 bt347.2.2.2.2.2.1 bt359.1 bt359.2.1 bt359.2.2.1 bt359.2.2.2.1 bt359.2.2.2.2.1 bt359.2.2.2.2.2.1).bind fun t371 => (if t371 = true then (if bt347.2.2.2.2.2.2 = bt359.2.2.2.2.2.2 then ((headgatelaw18_awake.f kj2).bind fun t372 => (some t372)) else (some false)) else (some false))) else (some false)) else (some false))))) = some r := H
  have A14 := Aside0.mk A140
  clear A140
  replace H := Option.bind_eq_some_iff.mp H
  obtain ⟨⟨t345, t346⟩, A150, H⟩ := H
  replace H : ((wire_DecodeReply.f kj2 a1).bind fun bt347 => ((headgateref18_DecodeReply.f kj2 a1).bind fun bt359 => (if t343.toList = t345.toList then (if t344 = t346 then ((headgateref18_SameReply.f kj2 bt347.1 bt347.2.1 bt347.2.2.1 bt347.2.2.2.1 bt347.2.2.2.2.1 bt347.2.2.2.2.2.1 bt359.1 bt359.2.1 bt359.2.2.1 bt359.2.2.2.1 bt359.2.2.2.2.1 bt359.2.2.2.2.2.1).bind fun t371 => (if t371 = true then (if bt347.2.2.2.2.2.2 = bt359.2.2.2.2.2.2 then ((headgatelaw18_awake.f kj2).bind fun t372 => (some t372)) else (some false)) else (some false))) else (some false)) else (some false)))) = some r := H
  have A15 := Aside0.mk A150
  clear A150
  replace H := Option.bind_eq_some_iff.mp H
  obtain ⟨⟨t347, t348, t349, t350, t351, t354, t357⟩, A160, H⟩ := H
  replace H : ((headgateref18_DecodeReply.f kj2 a1).bind fun bt359 => (if t343.toList = t345.toList then (if t344 = t346 then ((headgateref18_SameReply.f kj2 t347 t348 t349 t350 t351 t354 bt359.1 bt359.2.1 bt359.2.2.1 bt359.2.2.2.1 bt359.2.2.2.2.1 bt359.2.2.2.2.2.1).bind fun t371 => (if t371 = true then (if t357 = bt359.2.2.2.2.2.2 then ((headgatelaw18_awake.f kj2).bind fun t372 => (some t372)) else (some false)) else (some false))) else (some false)) else (some false))) = some r := H
  have A16 := Aside0.mk A160
  clear A160
  replace H := Option.bind_eq_some_iff.mp H
  obtain ⟨⟨t359, t360, t361, t362, t363, t366, t369⟩, A170, H⟩ := H
  replace H : (if t343.toList = t345.toList then (if t344 = t346 then ((headgateref18_SameReply.f kj2 t347 t348 t349 t350 t351 t354 t359 t360 t361 t362 t363 t366).bind fun t371 => (if t371 = true then (if t357 = t369 then ((headgatelaw18_awake.f kj2).bind fun t372 => (some t372)) else (some false)) else (some false))) else (some false)) else (some false)) = some r := H
  have A17 := Aside0.mk A170
  clear A170
  by_cases c18 : t343.toList = t345.toList
  ·rw [if_pos c18] at H
   have c18b0 : (t343.toList == t345.toList) = true := beq_iff_eq.mpr c18
   have c18b1 : (t343.toList != t345.toList) = false := bne_eq_false_iff_eq.mpr c18
   clear c18
   by_cases c19 : t344 = t346
   ·rw [if_pos c19] at H
    have c19b0 : (t344 == t346) = true := beq_iff_eq.mpr c19
    have c19b1 : (t344 != t346) = false := bne_eq_false_iff_eq.mpr c19
    clear c19
    replace H := Option.bind_eq_some_iff.mp H
    obtain ⟨t371, A200, H⟩ := H
    replace H : (if t371 = true then (if t357 = t369 then ((headgatelaw18_awake.f kj2).bind fun t372 => (some t372)) else (some false)) else (some false)) = some r := H
    have A20 := Aside0.mk A200
    clear A200
    by_cases c21 : t371 = true
    ·subst c21
     have H1 : (if t357 = t369 then ((headgatelaw18_awake.f kj2).bind fun t372 => (some t372)) else (some false)) = some r := by rw [if_pos rfl] at H; exact H
     clear H
     have H := H1
     clear H1
     by_cases c22 : t357 = t369
     ·rw [if_pos c22] at H
      have c22b0 : (t357 == t369) = true := beq_iff_eq.mpr c22
      have c22b1 : (t357 != t369) = false := bne_eq_false_iff_eq.mpr c22
      clear c22
      replace H := Option.bind_eq_some_iff.mp H
      obtain ⟨t372, A230, H⟩ := H
      replace H : (some t372) = some r := H
      have A23 := Aside0.mk A230
      clear A230
      obtain rfl := Option.some.inj H
      have hcz24 := Zz.c6 BK340.out
      have hfz24 := blk_frozen BK340.out
      go_wp2_with (first | ((with_reducible refine gate_callee (f := 10) rfl ?_); refine goesL_ (some 24) rfl rfl Try.func10 (by kernel_rfl) rfl #[.agg #[.int .i64 a0_0, .int .i64 a0_1, .int .i64 a0_2, .int .i64 a0_3, .slice A0_4 l0_4.length c0_4, .slice A0_5 l0_5.length c0_5]] rfl Zz.g ?_; (with_reducible refine (wire_EncodeReply.calls kj2 a0_0 a0_1 a0_2 a0_3 _ _ l0_4 _ _ l0_5 t343 t344 _ ?side1 ?side2 ?side3 ?side4 A14.out).mono ?_); (case side1 => exact Zz.k (Kd.C_below HR0_4.out HB.out)); (case side2 => exact HC0_4.out); (case side3 => exact Zz.k (Kd.C_below HR0_5.out HB.out)); (case side4 => exact HC0_5.out); rintro e w25 ⟨rfl, hb⟩; refine ⟨_, rfl, ?_⟩; replace BK340 := Aside0.mk (Zz.bb BK340.out hb); replace HB := Aside0.mk (below_step (Zz.i HB.out) hb); (try clear hb); have hcz26 := Zz.c6 BK340.out; have hfz26 := blk_frozen BK340.out) | ((with_reducible refine gate_callee (f := 11) rfl ?_); refine goesL_ (some 29) rfl rfl Try.func11 (by kernel_rfl) rfl #[.agg #[.int .i64 a0_0, .int .i64 a0_1, .int .i64 a0_2, .int .i64 a0_3, .slice A0_4 l0_4.length c0_4, .slice A0_5 l0_5.length c0_5]] rfl Zz.g ?_; (with_reducible refine (headgateref18_EncodeReply.calls kj2 a0_0 a0_1 a0_2 a0_3 _ _ l0_4 _ _ l0_5 t345 t346 _ ?side1 ?side2 ?side3 ?side4 A15.out).mono ?_); (case side1 => exact Zz.k (Kd.C_below HR0_4.out HB.out)); (case side2 => exact HC0_4.out); (case side3 => exact Zz.k (Kd.C_below HR0_5.out HB.out)); (case side4 => exact HC0_5.out); rintro e w27 ⟨rfl, hb⟩; refine ⟨_, rfl, ?_⟩; replace BK340 := Aside0.mk (Zz.bb BK340.out hb); replace HB := Aside0.mk (below_step (Zz.i HB.out) hb); (try clear hb)) | ((with_reducible refine gate_callee (f := 12) rfl ?_); refine goesL_ (some 34) rfl rfl Try.func12 (by kernel_rfl) rfl #[.string a1] rfl Zz.g ?_; (with_reducible refine (wire_DecodeReply.calls kj2 a1 t347 t348 t349 t350 t351 t354 t357 _ A16.out).mono ?_); rintro e w28 ⟨v352, v355, rfl, ho0, ho1, hb⟩; refine ⟨_, rfl, ?_⟩; have HO353 := Aside0.mk (Kd.R_lower ho0 (below_size (Zz.i HB.out))); have HO356 := Aside0.mk (Kd.R_lower ho1 (below_size (Zz.i HB.out))); replace BK340 := Aside0.mk (Zz.bb BK340.out hb); replace HB := Aside0.mk (below_step (Zz.i HB.out) hb); (try clear hb); (try clear ho0); (try clear ho1)) | ((with_reducible refine gate_dst (N := 9) rfl ?_); (try (refine gate_guard (by rfl) ?_; dsimp only)); refine box_event ?hg (N := 9) ?hd (cs := #[.int .i64 0, .int .i64 0, .int .i64 0, .int .i64 0, .slice none 0 0, .slice none 0 0]) (t := 26) ?hr ?_; (case hd => rfl); (case hg => rfl); (case hr => first | (go_simp; done) | (go_simp; rfl)); intro gb358 hg w29 hbox hb; replace HO353 := Aside0.mk (Kd.R_below (Zz.r HO353.out) hb); replace HO356 := Aside0.mk (Kd.R_below (Zz.r HO356.out) hb); have BK358 := Aside0.mk (hbox); have GW358 := Aside0.mk (Zz.ge hg HB.out); have GE358 := Aside0.mk (Zz.ge hg HB.out); replace HB := Aside0.mk (below_step (Zz.i HB.out) hb); have NB340_358 := Aside0.mk (Zz.nl hg BK340.out); have NB358_340 := Aside0.mk (Zz.ng hg BK340.out); replace BK340 := Aside0.mk (Zz.bb BK340.out hb); clear hb hbox hg; have hnb30 := NB358_340.out; have hnc30 := NB340_358.out; have hcz31 := Zz.c6 BK358.out; have hfz31 := blk_frozen BK358.out; obtain ⟨Ao32, co32, eo32⟩ := Kd.R_slice HO353.out; subst eo32; obtain ⟨Ao33, co33, eo33⟩ := Kd.R_slice HO356.out; subst eo33) | ((with_reducible refine gate_callee (f := 13) rfl ?_); refine goesL_ (some 39) rfl rfl Try.func13 (by kernel_rfl) rfl #[.string a1] rfl Zz.g ?_; (with_reducible refine (headgateref18_DecodeReply.calls kj2 a1 t359 t360 t361 t362 t363 t366 t369 _ A17.out).mono ?_); rintro e w34 ⟨v364, v367, rfl, ho0, ho1, hb⟩; refine ⟨_, rfl, ?_⟩; have n0_ := Aside0.mk (Kd.R_elder' (by (with_reducible repeat (first | apply Kd.R_alloc | apply Kd.R_drewN | apply Kd.R_drew)); exact (Kd.R_mono (Kd.R_far (p := ⟨gb358, 5, none⟩) (Kd.R_far (p := ⟨gb358, 4, none⟩) (Kd.R_far (p := ⟨gb358, 3, none⟩) (Kd.R_far (p := ⟨gb358, 2, none⟩) (Kd.R_far (p := ⟨gb358, 1, none⟩) (Kd.R_far (p := ⟨gb358, 0, none⟩) (Kd.R_types HO353.out BK358.out (by decide)) (fun _ hk => hk.2) (.int .i64 t347)) (fun _ hk => hk.2) (.int .i64 t348)) (fun _ hk => hk.2) (.int .i64 t349)) (fun _ hk => hk.2) (.int .i64 t350)) (fun _ hk => hk.2) (.slice Ao32 t351.length co32)) (fun _ hk => hk.2) (.slice Ao33 t354.length co33)) (fun _ h_ => h_.1))) (Kd.R_base ho0) hb); have n1_ := Aside0.mk (Kd.R_elder' (by (with_reducible repeat (first | apply Kd.R_alloc | apply Kd.R_drewN | apply Kd.R_drew)); exact (Kd.R_mono (Kd.R_far (p := ⟨gb358, 5, none⟩) (Kd.R_far (p := ⟨gb358, 4, none⟩) (Kd.R_far (p := ⟨gb358, 3, none⟩) (Kd.R_far (p := ⟨gb358, 2, none⟩) (Kd.R_far (p := ⟨gb358, 1, none⟩) (Kd.R_far (p := ⟨gb358, 0, none⟩) (Kd.R_types HO356.out BK358.out (by decide)) (fun _ hk => hk.2) (.int .i64 t347)) (fun _ hk => hk.2) (.int .i64 t348)) (fun _ hk => hk.2) (.int .i64 t349)) (fun _ hk => hk.2) (.int .i64 t350)) (fun _ hk => hk.2) (.slice Ao32 t351.length co32)) (fun _ hk => hk.2) (.slice Ao33 t354.length co33)) (fun _ h_ => h_.1))) (Kd.R_base ho1) hb); have n2_ := Aside0.mk (Kd.R_lower (Kd.R_new' ho0 (Kd.R_lt (by (with_reducible repeat (first | apply Kd.R_alloc | apply Kd.R_drewN | apply Kd.R_drew)); exact (Kd.R_mono (Kd.R_far (p := ⟨gb358, 5, none⟩) (Kd.R_far (p := ⟨gb358, 4, none⟩) (Kd.R_far (p := ⟨gb358, 3, none⟩) (Kd.R_far (p := ⟨gb358, 2, none⟩) (Kd.R_far (p := ⟨gb358, 1, none⟩) (Kd.R_far (p := ⟨gb358, 0, none⟩) (Kd.R_types HO353.out BK358.out (by decide)) (fun _ hk => hk.2) (.int .i64 t347)) (fun _ hk => hk.2) (.int .i64 t348)) (fun _ hk => hk.2) (.int .i64 t349)) (fun _ hk => hk.2) (.int .i64 t350)) (fun _ hk => hk.2) (.slice Ao32 t351.length co32)) (fun _ hk => hk.2) (.slice Ao33 t354.length co33)) (fun _ h_ => h_.1))))) (below_size (Zz.i HB.out))); have n3_ := Aside0.mk (Kd.R_lower (Kd.R_new' ho1 (Kd.R_lt (by (with_reducible repeat (first | apply Kd.R_alloc | apply Kd.R_drewN | apply Kd.R_drew)); exact (Kd.R_mono (Kd.R_far (p := ⟨gb358, 5, none⟩) (Kd.R_far (p := ⟨gb358, 4, none⟩) (Kd.R_far (p := ⟨gb358, 3, none⟩) (Kd.R_far (p := ⟨gb358, 2, none⟩) (Kd.R_far (p := ⟨gb358, 1, none⟩) (Kd.R_far (p := ⟨gb358, 0, none⟩) (Kd.R_types HO356.out BK358.out (by decide)) (fun _ hk => hk.2) (.int .i64 t347)) (fun _ hk => hk.2) (.int .i64 t348)) (fun _ hk => hk.2) (.int .i64 t349)) (fun _ hk => hk.2) (.int .i64 t350)) (fun _ hk => hk.2) (.slice Ao32 t351.length co32)) (fun _ hk => hk.2) (.slice Ao33 t354.length co33)) (fun _ h_ => h_.1))))) (below_size (Zz.i HB.out))); have n4_ := Aside0.mk (blk_below (g := gb340) (o := .cells #[.int .i64 a0_0, .int .i64 a0_1, .int .i64 a0_2, .int .i64 a0_3, .slice A0_4 l0_4.length c0_4, .slice A0_5 l0_5.length c0_5] 26 (0, 0)) (by (with_reducible repeat (first | refine blk_drewN ?_ _ | refine blk_drew ?_ | refine blk_alloc ?_ _)); refine blk_far ?_ NB340_358.out _; (with_reducible repeat (first | refine blk_drewN ?_ _ | refine blk_drew ?_ | refine blk_alloc ?_ _)); refine blk_far ?_ NB340_358.out _; (with_reducible repeat (first | refine blk_drewN ?_ _ | refine blk_drew ?_ | refine blk_alloc ?_ _)); refine blk_far ?_ NB340_358.out _; (with_reducible repeat (first | refine blk_drewN ?_ _ | refine blk_drew ?_ | refine blk_alloc ?_ _)); refine blk_far ?_ NB340_358.out _; (with_reducible repeat (first | refine blk_drewN ?_ _ | refine blk_drew ?_ | refine blk_alloc ?_ _)); refine blk_far ?_ NB340_358.out _; (with_reducible repeat (first | refine blk_drewN ?_ _ | refine blk_drew ?_ | refine blk_alloc ?_ _)); refine blk_far ?_ NB340_358.out _; (with_reducible repeat (first | refine blk_drewN ?_ _ | refine blk_drew ?_ | refine blk_alloc ?_ _)); exact BK340.out) hb); have n5_ := Aside0.mk (blk_below (g := gb358) (o := .cells #[.int .i64 t347, .int .i64 t348, .int .i64 t349, .int .i64 t350, .slice Ao32 t351.length co32, .slice Ao33 t354.length co33] 26 (0, 0)) (by (with_reducible repeat (first | refine blk_drewN ?_ _ | refine blk_drew ?_ | refine blk_alloc ?_ _)); refine blk_put (cs := #[.int .i64 t347, .int .i64 t348, .int .i64 t349, .int .i64 t350, .slice Ao32 t351.length co32, .slice none 0 0]) ?_ 5 _ rfl; (with_reducible repeat (first | refine blk_drewN ?_ _ | refine blk_drew ?_ | refine blk_alloc ?_ _)); refine blk_put (cs := #[.int .i64 t347, .int .i64 t348, .int .i64 t349, .int .i64 t350, .slice none 0 0, .slice none 0 0]) ?_ 4 _ rfl; (with_reducible repeat (first | refine blk_drewN ?_ _ | refine blk_drew ?_ | refine blk_alloc ?_ _)); refine blk_put (cs := #[.int .i64 t347, .int .i64 t348, .int .i64 t349, .int .i64 0, .slice none 0 0, .slice none 0 0]) ?_ 3 _ rfl; (with_reducible repeat (first | refine blk_drewN ?_ _ | refine blk_drew ?_ | refine blk_alloc ?_ _)); refine blk_put (cs := #[.int .i64 t347, .int .i64 t348, .int .i64 0, .int .i64 0, .slice none 0 0, .slice none 0 0]) ?_ 2 _ rfl; (with_reducible repeat (first | refine blk_drewN ?_ _ | refine blk_drew ?_ | refine blk_alloc ?_ _)); refine blk_put (cs := #[.int .i64 t347, .int .i64 0, .int .i64 0, .int .i64 0, .slice none 0 0, .slice none 0 0]) ?_ 1 _ rfl; (with_reducible repeat (first | refine blk_drewN ?_ _ | refine blk_drew ?_ | refine blk_alloc ?_ _)); refine blk_put (cs := #[.int .i64 0, .int .i64 0, .int .i64 0, .int .i64 0, .slice none 0 0, .slice none 0 0]) ?_ 0 _ rfl; (with_reducible repeat (first | refine blk_drewN ?_ _ | refine blk_drew ?_ | refine blk_alloc ?_ _)); exact BK358.out) hb); have n6_ := Aside0.mk (below_step (Zz.i HB.out) hb); clear HO353; clear HO356; clear BK340; clear BK358; clear HB; have HO353 := n0_; have HO356 := n1_; have HO365 := n2_; have HO368 := n3_; have BK340 := n4_; have BK358 := n5_; have HB := n6_; clear n0_ n1_ n2_ n3_ n4_ n5_ n6_; (try clear hb); (try clear hk); (try clear ho0); (try clear ho1)) | ((with_reducible refine gate_dst (N := 11) rfl ?_); (try (refine gate_guard (by rfl) ?_; dsimp only)); refine box_event ?hg (N := 11) ?hd (cs := #[.int .i64 0, .int .i64 0, .int .i64 0, .int .i64 0, .slice none 0 0, .slice none 0 0]) (t := 26) ?hr ?_; (case hd => rfl); (case hg => rfl); (case hr => first | (go_simp; done) | (go_simp; rfl)); intro gb370 hg w35 hbox hb; replace HO353 := Aside0.mk (Kd.R_below (Zz.r HO353.out) hb); replace HO356 := Aside0.mk (Kd.R_below (Zz.r HO356.out) hb); replace HO365 := Aside0.mk (Kd.R_below (Zz.r HO365.out) hb); replace HO368 := Aside0.mk (Kd.R_below (Zz.r HO368.out) hb); have BK370 := Aside0.mk (hbox); have GW370 := Aside0.mk (Zz.ge hg HB.out); have GE370 := Aside0.mk (Zz.ge hg HB.out); replace HB := Aside0.mk (below_step (Zz.i HB.out) hb); have NB340_370 := Aside0.mk (Zz.nl hg BK340.out); have NB370_340 := Aside0.mk (Zz.ng hg BK340.out); replace BK340 := Aside0.mk (Zz.bb BK340.out hb); have NB358_370 := Aside0.mk (Zz.nl hg BK358.out); have NB370_358 := Aside0.mk (Zz.ng hg BK358.out); replace BK358 := Aside0.mk (Zz.bb BK358.out hb); clear hb hbox hg; have hnb36 := NB370_340.out; have hnc36 := NB340_370.out; have hnb37 := NB370_358.out; have hnc37 := NB358_370.out; have hcz38 := Zz.c6 BK370.out; have hfz38 := blk_frozen BK370.out; obtain ⟨Ao39, co39, eo39⟩ := Kd.R_slice HO365.out; subst eo39; obtain ⟨Ao40, co40, eo40⟩ := Kd.R_slice HO368.out; subst eo40; have hcz41 := Zz.c6 BK358.out; have hfz41 := blk_frozen BK358.out) | (go_at_call 14; (with_reducible refine (headgateref18_SameReply.calls kj2 t347 t348 t349 t350 _ _ t351 _ _ t354 t359 t360 t361 t362 _ _ t363 _ _ t366 true _ ?side1 ?side2 ?side3 ?side4 ?side5 ?side6 ?side7 ?side8 A20.out).mono ?_); (case side1 => refine (Kd.R_reads' (e := 3) (base := w.heap.size) (ok := fun k_ => (True ∧ some k_ ≠ (.slice Ao39 t363.length co39 : Value).ownBlock)) (n := t351.length) (c := co32) ?_).2.2; exact (by (with_reducible repeat (first | apply Kd.R_alloc | apply Kd.R_drewN | apply Kd.R_drew)); exact (Kd.R_mono (Kd.R_far (p := ⟨gb370, 5, none⟩) (Kd.R_far (p := ⟨gb370, 4, none⟩) (Kd.R_far (p := ⟨gb370, 3, none⟩) (Kd.R_far (p := ⟨gb370, 2, none⟩) (Kd.R_far (p := ⟨gb370, 1, none⟩) (Kd.R_far (p := ⟨gb370, 0, none⟩) (Kd.R_types HO353.out BK370.out (by decide)) (fun _ hk => hk.2) (.int .i64 t359)) (fun _ hk => hk.2) (.int .i64 t360)) (fun _ hk => hk.2) (.int .i64 t361)) (fun _ hk => hk.2) (.int .i64 t362)) (fun _ hk => hk.2) (.slice Ao39 t363.length co39)) (fun _ hk => hk.2) (.slice Ao40 t366.length co40)) (fun _ h_ => h_.1)))); (case side2 => exact (Kd.R_reads' HO353.out).2.1); (case side3 => refine (Kd.R_reads' (e := 59) (base := w.heap.size) (ok := fun k_ => (True ∧ some k_ ≠ (.slice Ao40 t366.length co40 : Value).ownBlock)) (n := t354.length) (c := co33) ?_).2.2; exact (by (with_reducible repeat (first | apply Kd.R_alloc | apply Kd.R_drewN | apply Kd.R_drew)); exact (Kd.R_mono (Kd.R_far (p := ⟨gb370, 5, none⟩) (Kd.R_far (p := ⟨gb370, 4, none⟩) (Kd.R_far (p := ⟨gb370, 3, none⟩) (Kd.R_far (p := ⟨gb370, 2, none⟩) (Kd.R_far (p := ⟨gb370, 1, none⟩) (Kd.R_far (p := ⟨gb370, 0, none⟩) (Kd.R_types HO356.out BK370.out (by decide)) (fun _ hk => hk.2) (.int .i64 t359)) (fun _ hk => hk.2) (.int .i64 t360)) (fun _ hk => hk.2) (.int .i64 t361)) (fun _ hk => hk.2) (.int .i64 t362)) (fun _ hk => hk.2) (.slice Ao39 t363.length co39)) (fun _ hk => hk.2) (.slice Ao40 t366.length co40)) (fun _ h_ => h_.1)))); (case side4 => exact (Kd.R_reads' HO356.out).2.1); (case side5 => refine (Kd.R_reads' (e := 3) (base := w.heap.size) (ok := fun k_ => (True ∧ some k_ ≠ (.slice Ao32 t351.length co32 : Value).ownBlock)) (n := t363.length) (c := co39) ?_).2.2; exact (by (with_reducible repeat (first | apply Kd.R_alloc | apply Kd.R_drewN | apply Kd.R_drew)); exact (Kd.R_mono (Kd.R_far (p := ⟨gb370, 5, none⟩) (Kd.R_far (p := ⟨gb370, 4, none⟩) (Kd.R_far (p := ⟨gb370, 3, none⟩) (Kd.R_far (p := ⟨gb370, 2, none⟩) (Kd.R_far (p := ⟨gb370, 1, none⟩) (Kd.R_far (p := ⟨gb370, 0, none⟩) (Kd.R_types HO365.out BK370.out (by decide)) (fun _ hk => hk.2) (.int .i64 t359)) (fun _ hk => hk.2) (.int .i64 t360)) (fun _ hk => hk.2) (.int .i64 t361)) (fun _ hk => hk.2) (.int .i64 t362)) (fun _ hk => hk.2) (.slice Ao39 t363.length co39)) (fun _ hk => hk.2) (.slice Ao40 t366.length co40)) (fun _ h_ => h_.1)))); (case side6 => exact (Kd.R_reads' HO365.out).2.1); (case side7 => refine (Kd.R_reads' (e := 59) (base := w.heap.size) (ok := fun k_ => (True ∧ some k_ ≠ (.slice Ao33 t354.length co33 : Value).ownBlock)) (n := t366.length) (c := co40) ?_).2.2; exact (by (with_reducible repeat (first | apply Kd.R_alloc | apply Kd.R_drewN | apply Kd.R_drew)); exact (Kd.R_mono (Kd.R_far (p := ⟨gb370, 5, none⟩) (Kd.R_far (p := ⟨gb370, 4, none⟩) (Kd.R_far (p := ⟨gb370, 3, none⟩) (Kd.R_far (p := ⟨gb370, 2, none⟩) (Kd.R_far (p := ⟨gb370, 1, none⟩) (Kd.R_far (p := ⟨gb370, 0, none⟩) (Kd.R_types HO368.out BK370.out (by decide)) (fun _ hk => hk.2) (.int .i64 t359)) (fun _ hk => hk.2) (.int .i64 t360)) (fun _ hk => hk.2) (.int .i64 t361)) (fun _ hk => hk.2) (.int .i64 t362)) (fun _ hk => hk.2) (.slice Ao39 t363.length co39)) (fun _ hk => hk.2) (.slice Ao40 t366.length co40)) (fun _ h_ => h_.1)))); (case side8 => exact (Kd.R_reads' HO368.out).2.1); rintro e w42 ⟨rfl, hb⟩; have n0_ := Aside0.mk (Kd.R_below (by (with_reducible repeat (first | apply Kd.R_alloc | apply Kd.R_drewN | apply Kd.R_drew)); exact (Kd.R_mono (Kd.R_far (p := ⟨gb370, 5, none⟩) (Kd.R_far (p := ⟨gb370, 4, none⟩) (Kd.R_far (p := ⟨gb370, 3, none⟩) (Kd.R_far (p := ⟨gb370, 2, none⟩) (Kd.R_far (p := ⟨gb370, 1, none⟩) (Kd.R_far (p := ⟨gb370, 0, none⟩) (Kd.R_types HO353.out BK370.out (by decide)) (fun _ hk => hk.2) (.int .i64 t359)) (fun _ hk => hk.2) (.int .i64 t360)) (fun _ hk => hk.2) (.int .i64 t361)) (fun _ hk => hk.2) (.int .i64 t362)) (fun _ hk => hk.2) (.slice Ao39 t363.length co39)) (fun _ hk => hk.2) (.slice Ao40 t366.length co40)) (fun _ h_ => h_.1))) hb); have n1_ := Aside0.mk (Kd.R_below (by (with_reducible repeat (first | apply Kd.R_alloc | apply Kd.R_drewN | apply Kd.R_drew)); exact (Kd.R_mono (Kd.R_far (p := ⟨gb370, 5, none⟩) (Kd.R_far (p := ⟨gb370, 4, none⟩) (Kd.R_far (p := ⟨gb370, 3, none⟩) (Kd.R_far (p := ⟨gb370, 2, none⟩) (Kd.R_far (p := ⟨gb370, 1, none⟩) (Kd.R_far (p := ⟨gb370, 0, none⟩) (Kd.R_types HO356.out BK370.out (by decide)) (fun _ hk => hk.2) (.int .i64 t359)) (fun _ hk => hk.2) (.int .i64 t360)) (fun _ hk => hk.2) (.int .i64 t361)) (fun _ hk => hk.2) (.int .i64 t362)) (fun _ hk => hk.2) (.slice Ao39 t363.length co39)) (fun _ hk => hk.2) (.slice Ao40 t366.length co40)) (fun _ h_ => h_.1))) hb); have n2_ := Aside0.mk (Kd.R_below (by (with_reducible repeat (first | apply Kd.R_alloc | apply Kd.R_drewN | apply Kd.R_drew)); exact (Kd.R_mono (Kd.R_far (p := ⟨gb370, 5, none⟩) (Kd.R_far (p := ⟨gb370, 4, none⟩) (Kd.R_far (p := ⟨gb370, 3, none⟩) (Kd.R_far (p := ⟨gb370, 2, none⟩) (Kd.R_far (p := ⟨gb370, 1, none⟩) (Kd.R_far (p := ⟨gb370, 0, none⟩) (Kd.R_types HO365.out BK370.out (by decide)) (fun _ hk => hk.2) (.int .i64 t359)) (fun _ hk => hk.2) (.int .i64 t360)) (fun _ hk => hk.2) (.int .i64 t361)) (fun _ hk => hk.2) (.int .i64 t362)) (fun _ hk => hk.2) (.slice Ao39 t363.length co39)) (fun _ hk => hk.2) (.slice Ao40 t366.length co40)) (fun _ h_ => h_.1))) hb); have n3_ := Aside0.mk (Kd.R_below (by (with_reducible repeat (first | apply Kd.R_alloc | apply Kd.R_drewN | apply Kd.R_drew)); exact (Kd.R_mono (Kd.R_far (p := ⟨gb370, 5, none⟩) (Kd.R_far (p := ⟨gb370, 4, none⟩) (Kd.R_far (p := ⟨gb370, 3, none⟩) (Kd.R_far (p := ⟨gb370, 2, none⟩) (Kd.R_far (p := ⟨gb370, 1, none⟩) (Kd.R_far (p := ⟨gb370, 0, none⟩) (Kd.R_types HO368.out BK370.out (by decide)) (fun _ hk => hk.2) (.int .i64 t359)) (fun _ hk => hk.2) (.int .i64 t360)) (fun _ hk => hk.2) (.int .i64 t361)) (fun _ hk => hk.2) (.int .i64 t362)) (fun _ hk => hk.2) (.slice Ao39 t363.length co39)) (fun _ hk => hk.2) (.slice Ao40 t366.length co40)) (fun _ h_ => h_.1))) hb); have n4_ := Aside0.mk (blk_below (g := gb340) (o := .cells #[.int .i64 a0_0, .int .i64 a0_1, .int .i64 a0_2, .int .i64 a0_3, .slice A0_4 l0_4.length c0_4, .slice A0_5 l0_5.length c0_5] 26 (0, 0)) (by (with_reducible repeat (first | refine blk_drewN ?_ _ | refine blk_drew ?_ | refine blk_alloc ?_ _)); refine blk_far ?_ NB340_370.out _; (with_reducible repeat (first | refine blk_drewN ?_ _ | refine blk_drew ?_ | refine blk_alloc ?_ _)); refine blk_far ?_ NB340_370.out _; (with_reducible repeat (first | refine blk_drewN ?_ _ | refine blk_drew ?_ | refine blk_alloc ?_ _)); refine blk_far ?_ NB340_370.out _; (with_reducible repeat (first | refine blk_drewN ?_ _ | refine blk_drew ?_ | refine blk_alloc ?_ _)); refine blk_far ?_ NB340_370.out _; (with_reducible repeat (first | refine blk_drewN ?_ _ | refine blk_drew ?_ | refine blk_alloc ?_ _)); refine blk_far ?_ NB340_370.out _; (with_reducible repeat (first | refine blk_drewN ?_ _ | refine blk_drew ?_ | refine blk_alloc ?_ _)); refine blk_far ?_ NB340_370.out _; (with_reducible repeat (first | refine blk_drewN ?_ _ | refine blk_drew ?_ | refine blk_alloc ?_ _)); exact BK340.out) hb); have n5_ := Aside0.mk (blk_below (g := gb358) (o := .cells #[.int .i64 t347, .int .i64 t348, .int .i64 t349, .int .i64 t350, .slice Ao32 t351.length co32, .slice Ao33 t354.length co33] 26 (0, 0)) (by (with_reducible repeat (first | refine blk_drewN ?_ _ | refine blk_drew ?_ | refine blk_alloc ?_ _)); refine blk_far ?_ NB358_370.out _; (with_reducible repeat (first | refine blk_drewN ?_ _ | refine blk_drew ?_ | refine blk_alloc ?_ _)); refine blk_far ?_ NB358_370.out _; (with_reducible repeat (first | refine blk_drewN ?_ _ | refine blk_drew ?_ | refine blk_alloc ?_ _)); refine blk_far ?_ NB358_370.out _; (with_reducible repeat (first | refine blk_drewN ?_ _ | refine blk_drew ?_ | refine blk_alloc ?_ _)); refine blk_far ?_ NB358_370.out _; (with_reducible repeat (first | refine blk_drewN ?_ _ | refine blk_drew ?_ | refine blk_alloc ?_ _)); refine blk_far ?_ NB358_370.out _; (with_reducible repeat (first | refine blk_drewN ?_ _ | refine blk_drew ?_ | refine blk_alloc ?_ _)); refine blk_far ?_ NB358_370.out _; (with_reducible repeat (first | refine blk_drewN ?_ _ | refine blk_drew ?_ | refine blk_alloc ?_ _)); exact BK358.out) hb); have n6_ := Aside0.mk (blk_below (g := gb370) (o := .cells #[.int .i64 t359, .int .i64 t360, .int .i64 t361, .int .i64 t362, .slice Ao39 t363.length co39, .slice Ao40 t366.length co40] 26 (0, 0)) (by (with_reducible repeat (first | refine blk_drewN ?_ _ | refine blk_drew ?_ | refine blk_alloc ?_ _)); refine blk_put (cs := #[.int .i64 t359, .int .i64 t360, .int .i64 t361, .int .i64 t362, .slice Ao39 t363.length co39, .slice none 0 0]) ?_ 5 _ rfl; (with_reducible repeat (first | refine blk_drewN ?_ _ | refine blk_drew ?_ | refine blk_alloc ?_ _)); refine blk_put (cs := #[.int .i64 t359, .int .i64 t360, .int .i64 t361, .int .i64 t362, .slice none 0 0, .slice none 0 0]) ?_ 4 _ rfl; (with_reducible repeat (first | refine blk_drewN ?_ _ | refine blk_drew ?_ | refine blk_alloc ?_ _)); refine blk_put (cs := #[.int .i64 t359, .int .i64 t360, .int .i64 t361, .int .i64 0, .slice none 0 0, .slice none 0 0]) ?_ 3 _ rfl; (with_reducible repeat (first | refine blk_drewN ?_ _ | refine blk_drew ?_ | refine blk_alloc ?_ _)); refine blk_put (cs := #[.int .i64 t359, .int .i64 t360, .int .i64 0, .int .i64 0, .slice none 0 0, .slice none 0 0]) ?_ 2 _ rfl; (with_reducible repeat (first | refine blk_drewN ?_ _ | refine blk_drew ?_ | refine blk_alloc ?_ _)); refine blk_put (cs := #[.int .i64 t359, .int .i64 0, .int .i64 0, .int .i64 0, .slice none 0 0, .slice none 0 0]) ?_ 1 _ rfl; (with_reducible repeat (first | refine blk_drewN ?_ _ | refine blk_drew ?_ | refine blk_alloc ?_ _)); refine blk_put (cs := #[.int .i64 0, .int .i64 0, .int .i64 0, .int .i64 0, .slice none 0 0, .slice none 0 0]) ?_ 0 _ rfl; (with_reducible repeat (first | refine blk_drewN ?_ _ | refine blk_drew ?_ | refine blk_alloc ?_ _)); exact BK370.out) hb); have n7_ := Aside0.mk (below_step (Zz.i HB.out) hb); clear HO353; clear HO356; clear HO365; clear HO368; clear BK340; clear BK358; clear BK370; clear HB; have HO353 := n0_; have HO356 := n1_; have HO365 := n2_; have HO368 := n3_; have BK340 := n4_; have BK358 := n5_; have BK370 := n6_; have HB := n7_; clear n0_ n1_ n2_ n3_ n4_ n5_ n6_ n7_; (try clear hb); (try clear hk)) | (go_at_call 9; (with_reducible refine (headgatelaw18_awake.calls kj2  t372 _ A23.out).mono ?_); rintro e w43 ⟨rfl, hb⟩; replace HO353 := Aside0.mk (Kd.R_below (Zz.r HO353.out) hb); replace HO356 := Aside0.mk (Kd.R_below (Zz.r HO356.out) hb); replace HO365 := Aside0.mk (Kd.R_below (Zz.r HO365.out) hb); replace HO368 := Aside0.mk (Kd.R_below (Zz.r HO368.out) hb); replace BK340 := Aside0.mk (Zz.bb BK340.out hb); replace BK358 := Aside0.mk (Zz.bb BK358.out hb); replace BK370 := Aside0.mk (Zz.bb BK370.out hb); replace HB := Aside0.mk (below_step (Zz.i HB.out) hb); (try clear hb)))
      go_ret
      exact ⟨by first | rfl | (simp [errW_none, errW_some] <;> rfl) | (simp [*, errW_none, errW_some] <;> rfl), by repeat (first | (with_reducible first | exact HB.out | apply below_alloc | apply pw_below_drewN | apply below_drew1 | refine below_set ?_ GE340.out | refine below_set ?_ GE358.out | refine below_set ?_ GE370.out) | exact HB.out)⟩
     rw [if_neg c22] at H
     have c22b0 : (t357 == t369) = false := beq_eq_false_iff_ne.mpr c22
     have c22b1 : (t357 != t369) = true := bne_iff_ne.mpr c22
     obtain rfl := Option.some.inj H
     exact absurd hT_ Bool.false_ne_true
    replace c21 := Bool.eq_false_iff.mpr c21
    subst c21
    have H1 : (some false) = some r := by rw [if_neg (show ¬ (false = true) by decide)] at H; exact H
    clear H
    have H := H1
    clear H1
    obtain rfl := Option.some.inj H
    exact absurd hT_ Bool.false_ne_true
   rw [if_neg c19] at H
   have c19b0 : (t344 == t346) = false := beq_eq_false_iff_ne.mpr c19
   have c19b1 : (t344 != t346) = true := bne_iff_ne.mpr c19
   obtain rfl := Option.some.inj H
   exact absurd hT_ Bool.false_ne_true
  rw [if_neg c18] at H
  have c18b0 : (t343.toList == t345.toList) = false := beq_eq_false_iff_ne.mpr c18
  have c18b1 : (t343.toList != t345.toList) = true := bne_iff_ne.mpr c18
  obtain rfl := Option.some.inj H
  exact absurd hT_ Bool.false_ne_true

/-- THE ONE PURE STATEMENT of headgatelaw18_WireReplies: yours. -/
def headgatelaw18_WireReplies.Pure : Prop := ∀ (a0_0 : Int) (a0_1 : Int) (a0_2 : Int) (a0_3 : Int) (l0_4 : List Int) (l0_5 : List (S59)) (a1 : ByteArray), ((Lit.int .i64 a0_0).wf = true) → ((Lit.int .i64 a0_1).wf = true) → ((Lit.int .i64 a0_2).wf = true) → ((Lit.int .i64 a0_3).wf = true) → (l0_4.length ≤ 9223372036854775807 ∧ ∀ y_ ∈ l0_4, (Lit.int .i64 y_).wf = true) → (l0_5.length ≤ 9223372036854775807 ∧ ∀ y_ ∈ l0_5, wf59 y_) → (a1.size ≤ 9223372036854775807) → ∃ k, headgatelaw18_WireReplies.f k a0_0 a0_1 a0_2 a0_3 l0_4 l0_5 a1 = some true
theorem headgatelaw18_WireReplies.walk (P : headgatelaw18_WireReplies.Pure) (a0_0 : Int) (a0_1 : Int) (a0_2 : Int) (a0_3 : Int) (A0_4 : Option Addr) (c0_4 : Nat) (l0_4 : List Int) (A0_5 : Option Addr) (c0_5 : Nat) (l0_5 : List (S59)) (a1 : ByteArray) (w : World) (hr0_4 : Kd.C (Kd.int .i64) w A0_4 l0_4.length l0_4) (hc0_4 : l0_4.length ≤ c0_4) (hr0_5 : Kd.C k59 w A0_5 l0_5.length l0_5) (hc0_5 : l0_5.length ≤ c0_5) (w0_ : (Lit.int .i64 a0_0).wf = true) (w1_ : (Lit.int .i64 a0_1).wf = true) (w2_ : (Lit.int .i64 a0_2).wf = true) (w3_ : (Lit.int .i64 a0_3).wf = true) (w4_ : l0_4.length ≤ 9223372036854775807 ∧ ∀ y_ ∈ l0_4, (Lit.int .i64 y_).wf = true) (w5_ : l0_5.length ≤ 9223372036854775807 ∧ ∀ y_ ∈ l0_5, wf59 y_) (w6_ : a1.size ≤ 9223372036854775807) :
    Calls Try.prog 3 #[.agg #[.int .i64 a0_0, .int .i64 a0_1, .int .i64 a0_2, .int .i64 a0_3, .slice A0_4 l0_4.length c0_4, .slice A0_5 l0_5.length c0_5], .string a1] w fun e w' => e = .returned (.bool true) ∧ Below w.heap.size w w' := by
 obtain ⟨k, h⟩ := P a0_0 a0_1 a0_2 a0_3 l0_4 l0_5 a1 w0_ w1_ w2_ w3_ w4_ w5_ w6_
 refine (headgatelaw18_WireReplies.calls k a0_0 a0_1 a0_2 a0_3 _ _ l0_4 _ _ l0_5 a1 true w hr0_4 hc0_4 hr0_5 hc0_5 h rfl).mono ?_
 rintro e w' ⟨rfl, hd⟩
 exact ⟨rfl, hd⟩

end Go.Proofs.Ytikbpjdgihheiaa.P
