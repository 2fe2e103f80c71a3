-- Written by wip/mk.py of this repo: the kit's print program, with contracts of our own among its functions.
import Derived.Test.YtikbpjdgihheiaaPx0
import Derived.Test.YtikbpjdgihheiaaPx3
import Derived.Test.YtikbpjdgihheiaaPx8
import Derived.Test.YtikbpjdgihheiaaPx13
import Derived.Test.YtikbpjdgihheiaaPx14
import Derived.Test.YtikbpjdgihheiaaPx19
import Derived.Test.YtikbpjdgihheiaaPx25
import Derived.Test.YtikbpjdgihheiaaPx27
import Derived.Test.YtikbpjdgihheiaaPx36
import Derived.Test.YtikbpjdgihheiaaPx40
import Derived.Test.YtikbpjdgihheiaaKs
import Derived.Test.YtikbpjdgihheiaaZz
import Derived.Test.YtikbpjdgihheiaaKl
-- pressed
namespace Go.Proofs.Ytikbpjdgihheiaa.P
open Go.RowKit Go.Proofs.YtikbpjdgihheiaaW.PrintWords Go.Proofs.YtikbpjdgihheiaaW.PrintLast Go.Proofs.YtikbpjdgihheiaaW.PrintMore
attribute [local go_sem] max2_int min2_int max_two min_two max_three min_three max_four min_four   -- for this text's walks alone
attribute [local go_sem ↓] Kp.LDAsk_in Ks.STAsk_in
attribute [local go_sem] Kp.LDAsk_run Ks.STAsk_run
set_option linter.unusedVariables false
set_option linter.unusedSimpArgs false

/-! ### headgatelaw18_WireBack: function 5 -/
mutual
def headgatelaw18_WireBack.j0 : Nat → Bool → Int → Int → Int → Int → Int → Int → Int → Int → Int → Int → Int → Int → Bool → Int → Int → Int → Int → List (S57) → Int → Int → Int → Int → List Int → List (S59) → Option (Bool)
  | 0, _, _, _, _, _, _, _, _, _, _, _, _, _, _, _, _, _, _, _, _, _, _, _, _, _ => none
  | k + 1, x21, x686000, x686001, x686002, x686003, x686004, x686005, x686006, x686007, x686008, x686009, x686010, x686011, x686012, x686013, x686014, x686015, x686016, x686017, x687000, x687001, x687002, x687003, x687004, x687005 => if x21 = true then ((headgatelaw18_awake.f k).bind fun t689 => (some t689)) else ((wire_EncodeAsk.f k x686000 x686001 x686002 x686003 x686004 x686005 x686006 x686007 x686008 x686009 x686010 x686011 x686012 x686013 x686014 x686015 x686016 x686017).bind fun bt690 => ((wire_EncodeReply.f k x687000 x687001 x687002 x687003 x687004 x687005).bind fun bt692 => (if bt690.2 = 0 then ((wire_DecodeAsk.f k bt690.1).bind fun bt694 => (if bt694.2.2.2.2.2.2.2.2.2.2.2.2.2.2.2.2.2.2 = 0 then ((headgateref18_SameAsk.f k x686000 x686001 x686002 x686003 x686004 x686005 x686006 x686007 x686008 x686009 x686010 x686011 x686012 x686013 x686014 x686015 x686016 x686017 bt694.1 bt694.2.1 bt694.2.2.1 bt694.2.2.2.1 bt694.2.2.2.2.1 bt694.2.2.2.2.2.1 bt694.2.2.2.2.2.2.1 bt694.2.2.2.2.2.2.2.1 bt694.2.2.2.2.2.2.2.2.1 bt694.2.2.2.2.2.2.2.2.2.1 bt694.2.2.2.2.2.2.2.2.2.2.1 bt694.2.2.2.2.2.2.2.2.2.2.2.1 bt694.2.2.2.2.2.2.2.2.2.2.2.2.1 bt694.2.2.2.2.2.2.2.2.2.2.2.2.2.1 bt694.2.2.2.2.2.2.2.2.2.2.2.2.2.2.1 bt694.2.2.2.2.2.2.2.2.2.2.2.2.2.2.2.1 bt694.2.2.2.2.2.2.2.2.2.2.2.2.2.2.2.2.1 bt694.2.2.2.2.2.2.2.2.2.2.2.2.2.2.2.2.2.1).bind fun t716 => (if t716 = true then (headgatelaw18_WireBack.j1 k bt690.1 bt690.2 bt692.1 bt692.2 x687000 x687001 x687002 x687003 x687004 x687005) else (some false))) else (some false))) else (headgatelaw18_WireBack.j1 k bt690.1 bt690.2 bt692.1 bt692.2 x687000 x687001 x687002 x687003 x687004 x687005))))
def headgatelaw18_WireBack.j1 : Nat → ByteArray → Int → ByteArray → Int → Int → Int → Int → Int → List Int → List (S59) → Option (Bool)
  | 0, _, _, _, _, _, _, _, _, _, _ => none
  | k + 1, x5, x6, x7, x8, x687000, x687001, x687002, x687003, x687004, x687005 => if x8 = 0 then ((wire_DecodeReply.f k x7).bind fun bt717 => (if bt717.2.2.2.2.2.2 = 0 then ((headgateref18_SameReply.f k x687000 x687001 x687002 x687003 x687004 x687005 bt717.1 bt717.2.1 bt717.2.2.1 bt717.2.2.2.1 bt717.2.2.2.2.1 bt717.2.2.2.2.2.1).bind fun t729 => (if t729 = true then (if x6 = 0 then ((headgatelaw18_awake.f k).bind fun t730 => (some t730)) else (if x5.toList = ([] : List UInt8) then ((headgatelaw18_awake.f k).bind fun t731 => (some t731)) else (some false))) else (some false))) else (some false))) else (if x6 = 0 then (if x7.toList = ([] : List UInt8) then ((headgatelaw18_awake.f k).bind fun t732 => (some t732)) else (some false)) else (if x5.toList = ([] : List UInt8) then (if x7.toList = ([] : List UInt8) then ((headgatelaw18_awake.f k).bind fun t733 => (some t733)) else (some false)) else (some false)))
end
def headgatelaw18_WireBack.f (k : Nat) (a0_0 : Int) (a0_1 : Int) (a0_2 : Int) (a0_3 : Int) (a0_4 : Int) (a0_5 : Int) (a0_6 : Int) (a0_7 : Int) (a0_8 : Int) (a0_9 : Int) (a0_10 : Int) (a0_11 : Int) (a0_12 : Bool) (a0_13 : Int) (a0_14 : Int) (a0_15 : Int) (a0_16 : Int) (l0_17 : List (S57)) (a1_0 : Int) (a1_1 : Int) (a1_2 : Int) (a1_3 : Int) (l1_4 : List Int) (l1_5 : List (S59)) : Option (Bool) := (headgatelaw06_Light.f k a0_13 a0_14 a0_15 a0_16 l0_17).bind fun t687 => (if t687 = true then ((headgatelaw18_light.f k a1_0 a1_1 a1_2 a1_3 l1_4 l1_5).bind fun t688 => (headgatelaw18_WireBack.j0 k (!t688) a0_0 a0_1 a0_2 a0_3 a0_4 a0_5 a0_6 a0_7 a0_8 a0_9 a0_10 a0_11 a0_12 a0_13 a0_14 a0_15 a0_16 l0_17 a1_0 a1_1 a1_2 a1_3 l1_4 l1_5)) else (headgatelaw18_WireBack.j0 k true a0_0 a0_1 a0_2 a0_3 a0_4 a0_5 a0_6 a0_7 a0_8 a0_9 a0_10 a0_11 a0_12 a0_13 a0_14 a0_15 a0_16 l0_17 a1_0 a1_1 a1_2 a1_3 l1_4 l1_5))
theorem headgatelaw18_WireBack.mono_l : ∀ k, (∀ y0 y1 y2 y3 y4 y5 y6 y7 y8 y9 y10 y11 y12 y13 y14 y15 y16 y17 y18 y19 y20 y21 y22 y23 y24, LeO (headgatelaw18_WireBack.j0 k y0 y1 y2 y3 y4 y5 y6 y7 y8 y9 y10 y11 y12 y13 y14 y15 y16 y17 y18 y19 y20 y21 y22 y23 y24) (headgatelaw18_WireBack.j0 (k + 1) y0 y1 y2 y3 y4 y5 y6 y7 y8 y9 y10 y11 y12 y13 y14 y15 y16 y17 y18 y19 y20 y21 y22 y23 y24)) ∧ (∀ y0 y1 y2 y3 y4 y5 y6 y7 y8 y9, LeO (headgatelaw18_WireBack.j1 k y0 y1 y2 y3 y4 y5 y6 y7 y8 y9) (headgatelaw18_WireBack.j1 (k + 1) y0 y1 y2 y3 y4 y5 y6 y7 y8 y9))
  | 0 => ⟨fun _ _ _ _ _ _ _ _ _ _ _ _ _ _ _ _ _ _ _ _ _ _ _ _ _ r h => by simp [headgatelaw18_WireBack.j0] at h, fun _ _ _ _ _ _ _ _ _ _ r h => by simp [headgatelaw18_WireBack.j1] at h⟩
  | k + 1 => by
    obtain ⟨ih0, ih1⟩ := headgatelaw18_WireBack.mono_l k
    refine ⟨?_, ?_⟩
    · intro y0 y1 y2 y3 y4 y5 y6 y7 y8 y9 y10 y11 y12 y13 y14 y15 y16 y17 y18 y19 y20 y21 y22 y23 y24
      unfold headgatelaw18_WireBack.j0
      repeat' first
      | (with_reducible exact ih0 _ _ _ _ _ _ _ _ _ _ _ _ _ _ _ _ _ _ _ _ _ _ _ _ _)
      | (with_reducible exact ih1 _ _ _ _ _ _ _ _ _ _)
      | (with_reducible exact headgatelaw06_Light.mono _ _ _ _ _ _)
      | (with_reducible exact headgatelaw18_awake.mono _)
      | (with_reducible exact headgatelaw18_light.mono _ _ _ _ _ _ _)
      | (with_reducible exact headgateref18_SameAsk.mono _ _ _ _ _ _ _ _ _ _ _ _ _ _ _ _ _ _ _ _ _ _ _ _ _ _ _ _ _ _ _ _ _ _ _ _ _)
      | (with_reducible exact headgateref18_SameReply.mono _ _ _ _ _ _ _ _ _ _ _ _ _)
      | (with_reducible exact wire_DecodeAsk.mono _ _)
      | (with_reducible exact wire_DecodeReply.mono _ _)
      | (with_reducible exact wire_EncodeAsk.mono _ _ _ _ _ _ _ _ _ _ _ _ _ _ _ _ _ _ _)
      | (with_reducible exact wire_EncodeReply.mono _ _ _ _ _ _ _)
      | (with_reducible exact LeO.refl _)
      | (with_reducible exact LeO.none _)
      | (with_reducible refine LeO.ite ?_ ?_)
      | (with_reducible refine LeO.bind ?_ (fun _ => ?_))
      | exact ih0 _ _ _ _ _ _ _ _ _ _ _ _ _ _ _ _ _ _ _ _ _ _ _ _ _
      | exact ih1 _ _ _ _ _ _ _ _ _ _
      | exact headgatelaw06_Light.mono _ _ _ _ _ _
      | exact headgatelaw18_awake.mono _
      | exact headgatelaw18_light.mono _ _ _ _ _ _ _
      | exact headgateref18_SameAsk.mono _ _ _ _ _ _ _ _ _ _ _ _ _ _ _ _ _ _ _ _ _ _ _ _ _ _ _ _ _ _ _ _ _ _ _ _ _
      | exact headgateref18_SameReply.mono _ _ _ _ _ _ _ _ _ _ _ _ _
      | exact wire_DecodeAsk.mono _ _
      | exact wire_DecodeReply.mono _ _
      | exact wire_EncodeAsk.mono _ _ _ _ _ _ _ _ _ _ _ _ _ _ _ _ _ _ _
      | exact wire_EncodeReply.mono _ _ _ _ _ _ _
      | exact LeO.none _
      | refine LeO.ite ?_ ?_
      | refine LeO.bind ?_ (fun _ => ?_)
    · intro y0 y1 y2 y3 y4 y5 y6 y7 y8 y9
      unfold headgatelaw18_WireBack.j1
      repeat' first
      | (with_reducible exact ih0 _ _ _ _ _ _ _ _ _ _ _ _ _ _ _ _ _ _ _ _ _ _ _ _ _)
      | (with_reducible exact ih1 _ _ _ _ _ _ _ _ _ _)
      | (with_reducible exact headgatelaw06_Light.mono _ _ _ _ _ _)
      | (with_reducible exact headgatelaw18_awake.mono _)
      | (with_reducible exact headgatelaw18_light.mono _ _ _ _ _ _ _)
      | (with_reducible exact headgateref18_SameAsk.mono _ _ _ _ _ _ _ _ _ _ _ _ _ _ _ _ _ _ _ _ _ _ _ _ _ _ _ _ _ _ _ _ _ _ _ _ _)
      | (with_reducible exact headgateref18_SameReply.mono _ _ _ _ _ _ _ _ _ _ _ _ _)
      | (with_reducible exact wire_DecodeAsk.mono _ _)
      | (with_reducible exact wire_DecodeReply.mono _ _)
      | (with_reducible exact wire_EncodeAsk.mono _ _ _ _ _ _ _ _ _ _ _ _ _ _ _ _ _ _ _)
      | (with_reducible exact wire_EncodeReply.mono _ _ _ _ _ _ _)
      | (with_reducible exact LeO.refl _)
      | (with_reducible exact LeO.none _)
      | (with_reducible refine LeO.ite ?_ ?_)
      | (with_reducible refine LeO.bind ?_ (fun _ => ?_))
      | exact ih0 _ _ _ _ _ _ _ _ _ _ _ _ _ _ _ _ _ _ _ _ _ _ _ _ _
      | exact ih1 _ _ _ _ _ _ _ _ _ _
      | exact headgatelaw06_Light.mono _ _ _ _ _ _
      | exact headgatelaw18_awake.mono _
      | exact headgatelaw18_light.mono _ _ _ _ _ _ _
      | exact headgateref18_SameAsk.mono _ _ _ _ _ _ _ _ _ _ _ _ _ _ _ _ _ _ _ _ _ _ _ _ _ _ _ _ _ _ _ _ _ _ _ _ _
      | exact headgateref18_SameReply.mono _ _ _ _ _ _ _ _ _ _ _ _ _
      | exact wire_DecodeAsk.mono _ _
      | exact wire_DecodeReply.mono _ _
      | exact wire_EncodeAsk.mono _ _ _ _ _ _ _ _ _ _ _ _ _ _ _ _ _ _ _
      | exact wire_EncodeReply.mono _ _ _ _ _ _ _
      | exact LeO.none _
      | refine LeO.ite ?_ ?_
      | refine LeO.bind ?_ (fun _ => ?_)
theorem headgatelaw18_WireBack.mono : ∀ a0 a1 a2 a3 a4 a5 a6 a7 a8 a9 a10 a11 a12 a13 a14 a15 a16 a17 a18 a19 a20 a21 a22 a23 k, LeO (headgatelaw18_WireBack.f k a0 a1 a2 a3 a4 a5 a6 a7 a8 a9 a10 a11 a12 a13 a14 a15 a16 a17 a18 a19 a20 a21 a22 a23) (headgatelaw18_WireBack.f (k + 1) a0 a1 a2 a3 a4 a5 a6 a7 a8 a9 a10 a11 a12 a13 a14 a15 a16 a17 a18 a19 a20 a21 a22 a23) := by
  intro a0 a1 a2 a3 a4 a5 a6 a7 a8 a9 a10 a11 a12 a13 a14 a15 a16 a17 a18 a19 a20 a21 a22 a23 k
  obtain ⟨ih0, ih1⟩ := headgatelaw18_WireBack.mono_l k
  unfold headgatelaw18_WireBack.f
  repeat' first
      | (with_reducible exact ih0 _ _ _ _ _ _ _ _ _ _ _ _ _ _ _ _ _ _ _ _ _ _ _ _ _)
      | (with_reducible exact ih1 _ _ _ _ _ _ _ _ _ _)
      | (with_reducible exact headgatelaw06_Light.mono _ _ _ _ _ _)
      | (with_reducible exact headgatelaw18_awake.mono _)
      | (with_reducible exact headgatelaw18_light.mono _ _ _ _ _ _ _)
      | (with_reducible exact headgateref18_SameAsk.mono _ _ _ _ _ _ _ _ _ _ _ _ _ _ _ _ _ _ _ _ _ _ _ _ _ _ _ _ _ _ _ _ _ _ _ _ _)
      | (with_reducible exact headgateref18_SameReply.mono _ _ _ _ _ _ _ _ _ _ _ _ _)
      | (with_reducible exact wire_DecodeAsk.mono _ _)
      | (with_reducible exact wire_DecodeReply.mono _ _)
      | (with_reducible exact wire_EncodeAsk.mono _ _ _ _ _ _ _ _ _ _ _ _ _ _ _ _ _ _ _)
      | (with_reducible exact wire_EncodeReply.mono _ _ _ _ _ _ _)
      | (with_reducible exact LeO.refl _)
      | (with_reducible exact LeO.none _)
      | (with_reducible refine LeO.ite ?_ ?_)
      | (with_reducible refine LeO.bind ?_ (fun _ => ?_))
      | exact ih0 _ _ _ _ _ _ _ _ _ _ _ _ _ _ _ _ _ _ _ _ _ _ _ _ _
      | exact ih1 _ _ _ _ _ _ _ _ _ _
      | exact headgatelaw06_Light.mono _ _ _ _ _ _
      | exact headgatelaw18_awake.mono _
      | exact headgatelaw18_light.mono _ _ _ _ _ _ _
      | exact headgateref18_SameAsk.mono _ _ _ _ _ _ _ _ _ _ _ _ _ _ _ _ _ _ _ _ _ _ _ _ _ _ _ _ _ _ _ _ _ _ _ _ _
      | exact headgateref18_SameReply.mono _ _ _ _ _ _ _ _ _ _ _ _ _
      | exact wire_DecodeAsk.mono _ _
      | exact wire_DecodeReply.mono _ _
      | exact wire_EncodeAsk.mono _ _ _ _ _ _ _ _ _ _ _ _ _ _ _ _ _ _ _
      | exact wire_EncodeReply.mono _ _ _ _ _ _ _
      | exact LeO.none _
      | refine LeO.ite ?_ ?_
      | refine LeO.bind ?_ (fun _ => ?_)
set_option maxHeartbeats 8000000 in
set_option maxRecDepth 100000 in
theorem headgatelaw18_WireBack.calls (k : Nat) (a0_0 : Int) (a0_1 : Int) (a0_2 : Int) (a0_3 : Int) (a0_4 : Int) (a0_5 : Int) (a0_6 : Int) (a0_7 : Int) (a0_8 : Int) (a0_9 : Int) (a0_10 : Int) (a0_11 : Int) (a0_12 : Bool) (a0_13 : Int) (a0_14 : Int) (a0_15 : Int) (a0_16 : Int) (A0_17 : Option Addr) (c0_17 : Nat) (l0_17 : List (S57)) (a1_0 : Int) (a1_1 : Int) (a1_2 : Int) (a1_3 : Int) (A1_4 : Option Addr) (c1_4 : Nat) (l1_4 : List Int) (A1_5 : Option Addr) (c1_5 : Nat) (l1_5 : List (S59)) (r : Bool) (w : World) (hr0_17 : Kd.C k57 w A0_17 l0_17.length l0_17) (hc0_17 : l0_17.length ≤ c0_17) (hr1_4 : Kd.C (Kd.int .i64) w A1_4 l1_4.length l1_4) (hc1_4 : l1_4.length ≤ c1_4) (hr1_5 : Kd.C k59 w A1_5 l1_5.length l1_5) (hc1_5 : l1_5.length ≤ c1_5) (h : headgatelaw18_WireBack.f k a0_0 a0_1 a0_2 a0_3 a0_4 a0_5 a0_6 a0_7 a0_8 a0_9 a0_10 a0_11 a0_12 a0_13 a0_14 a0_15 a0_16 l0_17 a1_0 a1_1 a1_2 a1_3 l1_4 l1_5 = some r) (hT_ : r = true) :
    Calls Try.prog 5 #[.agg #[.int .i64 a0_0, .int .i64 a0_1, .int .i64 a0_2, .int .i64 a0_3, .int .i64 a0_4, .int .i64 a0_5, .int .i64 a0_6, .int .i64 a0_7, .int .i64 a0_8, .int .i64 a0_9, .int .i64 a0_10, .int .i64 a0_11, .bool a0_12, .int .i64 a0_13, .int .i64 a0_14, .int .i64 a0_15, .int .i64 a0_16, .slice A0_17 l0_17.length c0_17], .agg #[.int .i64 a1_0, .int .i64 a1_1, .int .i64 a1_2, .int .i64 a1_3, .slice A1_4 l1_4.length c1_4, .slice A1_5 l1_5.length c1_5]] w fun e w' => e = .returned (.bool r) ∧ Below w.heap.size w w' := by
 have hu43 := Try.underlying43
 have hu26 := Try.underlying26
 have hu41 := Try.underlying41
 have HR0_17 := Aside0.mk hr0_17
 have HC0_17 := Aside0.mk hc0_17
 clear hr0_17 hc0_17
 have HR1_4 := Aside0.mk hr1_4
 have HC1_4 := Aside0.mk hc1_4
 clear hr1_4 hc1_4
 have HR1_5 := Aside0.mk hr1_5
 have HC1_5 := Aside0.mk hc1_5
 clear hr1_5 hc1_5
 have HB := Aside0.mk (Below.refl w.heap.size w)
 have H : ((headgatelaw06_Light.f k a0_13 a0_14 a0_15 a0_16 l0_17).bind fun t687 => (if t687 = true then ((headgatelaw18_light.f k a1_0 a1_1 a1_2 a1_3 l1_4 l1_5).bind fun t688 => (headgatelaw18_WireBack.j0 k (!t688) a0_0 a0_1 a0_2 a0_3 a0_4 a0_5 a0_6 a0_7 a0_8 a0_9 a0_10 a0_11 a0_12 a0_13 a0_14 a0_15 a0_16 l0_17 a1_0 a1_1 a1_2 a1_3 l1_4 l1_5)) else (headgatelaw18_WireBack.j0 k true a0_0 a0_1 a0_2 a0_3 a0_4 a0_5 a0_6 a0_7 a0_8 a0_9 a0_10 a0_11 a0_12 a0_13 a0_14 a0_15 a0_16 l0_17 a1_0 a1_1 a1_2 a1_3 l1_4 l1_5))) = some r := h
 clear h
 have HC3 := Aside0.mk H
 clear H
 go_enter Try.func5, Try.ntmps5
 go_upto_region 1 with (first | ((with_reducible refine gate_dst (N := 2) rfl ?_); refine box_event ?hg (N := 2) ?hd (cs := #[.int .i64 a0_0, .int .i64 a0_1, .int .i64 a0_2, .int .i64 a0_3, .int .i64 a0_4, .int .i64 a0_5, .int .i64 a0_6, .int .i64 a0_7, .int .i64 a0_8, .int .i64 a0_9, .int .i64 a0_10, .int .i64 a0_11, .bool a0_12, .int .i64 a0_13, .int .i64 a0_14, .int .i64 a0_15, .int .i64 a0_16, .slice A0_17 l0_17.length c0_17]) (t := 43) ?hr ?_; (case hd => rfl); (case hg => rfl); (case hr => first | (go_simp; done) | (go_simp; rfl)); intro gb685 hg w4 hbox hb; have BK685 := Aside0.mk (hbox); have GW685 := Aside0.mk (Zz.ge hg HB.out); have GE685 := Aside0.mk (Zz.ge hg HB.out); replace HB := Aside0.mk (below_step (Zz.i HB.out) hb); clear hb hbox hg) | ((with_reducible refine gate_dst (N := 3) rfl ?_); refine box_event ?hg (N := 3) ?hd (cs := #[.int .i64 a1_0, .int .i64 a1_1, .int .i64 a1_2, .int .i64 a1_3, .slice A1_4 l1_4.length c1_4, .slice A1_5 l1_5.length c1_5]) (t := 26) ?hr ?_; (case hd => rfl); (case hg => rfl); (case hr => first | (go_simp; done) | (go_simp; rfl)); intro gb686 hg w5 hbox hb; have BK686 := Aside0.mk (hbox); have GW686 := Aside0.mk (Zz.ge hg HB.out); have GE686 := Aside0.mk (Zz.ge hg HB.out); replace HB := Aside0.mk (below_step (Zz.i HB.out) hb); have NB685_686 := Aside0.mk (Zz.nl hg BK685.out); have NB686_685 := Aside0.mk (Zz.ng hg BK685.out); replace BK685 := Aside0.mk (Zz.bb BK685.out hb); clear hb hbox hg))
 (try simp only [Act.put, List.setIfInBounds_toArray, List.set_cons_zero, List.set_cons_succ])
 go_cut [21] (fun v21 wc => ∃ (kq : Nat) (x21_2 : Bool), v21 = .bool x21_2 ∧ Aside0 (headgatelaw18_WireBack.j0 kq x21_2 a0_0 a0_1 a0_2 a0_3 a0_4 a0_5 a0_6 a0_7 a0_8 a0_9 a0_10 a0_11 a0_12 a0_13 a0_14 a0_15 a0_16 l0_17 a1_0 a1_1 a1_2 a1_3 l1_4 l1_5 = some r) ∧ Aside0 (kq ≤ k) ∧ Aside0 (wc.heap[gb685]? = some (.cells #[.int .i64 a0_0, .int .i64 a0_1, .int .i64 a0_2, .int .i64 a0_3, .int .i64 a0_4, .int .i64 a0_5, .int .i64 a0_6, .int .i64 a0_7, .int .i64 a0_8, .int .i64 a0_9, .int .i64 a0_10, .int .i64 a0_11, .bool a0_12, .int .i64 a0_13, .int .i64 a0_14, .int .i64 a0_15, .int .i64 a0_16, (.slice A0_17 l0_17.length c0_17)] 43 (0, 0))) ∧ Aside0 (wc.heap[gb686]? = some (.cells #[.int .i64 a1_0, .int .i64 a1_1, .int .i64 a1_2, .int .i64 a1_3, (.slice A1_4 l1_4.length c1_4), (.slice A1_5 l1_5.length c1_5)] 26 (0, 0))) ∧ Aside0 (Below w.heap.size w wc))
 case first =>
  have H := HC3.out
  clear HC3
  replace H := Option.bind_eq_some_iff.mp H
  obtain ⟨t687, A60, H⟩ := H
  replace H : (if t687 = true then ((headgatelaw18_light.f k a1_0 a1_1 a1_2 a1_3 l1_4 l1_5).bind fun t688 => (headgatelaw18_WireBack.j0 k (!t688) a0_0 a0_1 a0_2 a0_3 a0_4 a0_5 a0_6 a0_7 a0_8 a0_9 a0_10 a0_11 a0_12 a0_13 a0_14 a0_15 a0_16 l0_17 a1_0 a1_1 a1_2 a1_3 l1_4 l1_5)) else (headgatelaw18_WireBack.j0 k true a0_0 a0_1 a0_2 a0_3 a0_4 a0_5 a0_6 a0_7 a0_8 a0_9 a0_10 a0_11 a0_12 a0_13 a0_14 a0_15 a0_16 l0_17 a1_0 a1_1 a1_2 a1_3 l1_4 l1_5)) = some r := H
  have A6 := Aside0.mk A60
  clear A60
  by_cases c7 : t687 = true
  ·subst c7
   have H1 : ((headgatelaw18_light.f k a1_0 a1_1 a1_2 a1_3 l1_4 l1_5).bind fun t688 => (headgatelaw18_WireBack.j0 k (!t688) a0_0 a0_1 a0_2 a0_3 a0_4 a0_5 a0_6 a0_7 a0_8 a0_9 a0_10 a0_11 a0_12 a0_13 a0_14 a0_15 a0_16 l0_17 a1_0 a1_1 a1_2 a1_3 l1_4 l1_5)) = some r := by rw [if_pos rfl] at H; exact H
   clear H
   have H := H1
   clear H1
   replace H := Option.bind_eq_some_iff.mp H
   obtain ⟨t688, A80, H⟩ := H
   replace H : (headgatelaw18_WireBack.j0 k (!t688) a0_0 a0_1 a0_2 a0_3 a0_4 a0_5 a0_6 a0_7 a0_8 a0_9 a0_10 a0_11 a0_12 a0_13 a0_14 a0_15 a0_16 l0_17 a1_0 a1_1 a1_2 a1_3 l1_4 l1_5) = some r := H
   have A8 := Aside0.mk A80
   clear A80
   have H' := Aside0.mk H
   clear H
   have hnb9 := NB685_686.out
   have hnc9 := NB686_685.out
   have hcz10 := Zz.c18 BK685.out
   have hfz10 := blk_frozen BK685.out
   go_wp2_with (first | ((with_reducible refine gate_callee (f := 15) rfl ?_); refine goesL_ (some 15) rfl rfl Try.func15 (by kernel_rfl) rfl #[.agg #[.int .i64 a0_13, .int .i64 a0_14, .int .i64 a0_15, .int .i64 a0_16, .slice A0_17 l0_17.length c0_17]] rfl Zz.g ?_; (with_reducible refine (headgatelaw06_Light.calls k a0_13 a0_14 a0_15 a0_16 _ _ l0_17 true _ ?side1 ?side2 A6.out).mono ?_); (case side1 => exact Zz.k (Kd.C_below HR0_17.out HB.out)); (case side2 => exact HC0_17.out); rintro e w11 ⟨rfl, hb⟩; refine ⟨_, rfl, ?_⟩; replace BK685 := Aside0.mk (Zz.bb BK685.out hb); replace BK686 := Aside0.mk (Zz.bb BK686.out hb); replace HB := Aside0.mk (below_step (Zz.i HB.out) hb); (try clear hb); have hcz12 := Zz.c6 BK686.out; have hfz12 := blk_frozen BK686.out) | (go_at_call 8; (with_reducible refine (headgatelaw18_light.calls k a1_0 a1_1 a1_2 a1_3 _ _ l1_4 _ _ l1_5 t688 _ ?side1 ?side2 ?side3 ?side4 A8.out).mono ?_); (case side1 => exact Zz.k (Kd.C_below HR1_4.out HB.out)); (case side2 => exact HC1_4.out); (case side3 => exact Zz.k (Kd.C_below HR1_5.out HB.out)); (case side4 => exact HC1_5.out); rintro e w13 ⟨rfl, hb⟩; replace BK685 := Aside0.mk (Zz.bb BK685.out hb); replace BK686 := Aside0.mk (Zz.bb BK686.out hb); replace HB := Aside0.mk (below_step (Zz.i HB.out) hb); (try clear hb)))
   go_meet
   case rel => exact ⟨_, (!t688), Zz.q, H', ⟨by first | omega | exact Nat.le_refl _⟩, ⟨Zz.p BK685.out⟩, ⟨Zz.p BK686.out⟩, ⟨by repeat (first | (with_reducible first | exact HB.out | apply below_alloc | apply pw_below_drewN | apply below_drew1 | refine below_set ?_ GE685.out | refine below_set ?_ GE686.out) | exact HB.out)⟩⟩
  replace c7 := Bool.eq_false_iff.mpr c7
  subst c7
  have H1 : (headgatelaw18_WireBack.j0 k true a0_0 a0_1 a0_2 a0_3 a0_4 a0_5 a0_6 a0_7 a0_8 a0_9 a0_10 a0_11 a0_12 a0_13 a0_14 a0_15 a0_16 l0_17 a1_0 a1_1 a1_2 a1_3 l1_4 l1_5) = some r := by rw [if_neg (show ¬ (false = true) by decide)] at H; exact H
  clear H
  have H := H1
  clear H1
  have H' := Aside0.mk H
  clear H
  have hnb14 := NB685_686.out
  have hnc14 := NB686_685.out
  have hcz15 := Zz.c18 BK685.out
  have hfz15 := blk_frozen BK685.out
  go_wp2_with (first | ((with_reducible refine gate_callee (f := 15) rfl ?_); refine goesL_ (some 15) rfl rfl Try.func15 (by kernel_rfl) rfl #[.agg #[.int .i64 a0_13, .int .i64 a0_14, .int .i64 a0_15, .int .i64 a0_16, .slice A0_17 l0_17.length c0_17]] rfl Zz.g ?_; (with_reducible refine (headgatelaw06_Light.calls k a0_13 a0_14 a0_15 a0_16 _ _ l0_17 false _ ?side1 ?side2 A6.out).mono ?_); (case side1 => exact Zz.k (Kd.C_below HR0_17.out HB.out)); (case side2 => exact HC0_17.out); rintro e w16 ⟨rfl, hb⟩; refine ⟨_, rfl, ?_⟩; replace BK685 := Aside0.mk (Zz.bb BK685.out hb); replace BK686 := Aside0.mk (Zz.bb BK686.out hb); replace HB := Aside0.mk (below_step (Zz.i HB.out) hb); (try clear hb)))
  go_meet
  case rel => exact ⟨_, (true), Zz.q, H', ⟨by first | omega | exact Nat.le_refl _⟩, ⟨Zz.p BK685.out⟩, ⟨Zz.p BK686.out⟩, ⟨by repeat (first | (with_reducible first | exact HB.out | apply below_alloc | apply pw_below_drewN | apply below_drew1 | refine below_set ?_ GE685.out | refine below_set ?_ GE686.out) | exact HB.out)⟩⟩
 clear HC3
 (try clear c1);(try clear p2);(try clear c5);(try clear c7);(try clear c9);(try clear c14);(try clear c15);(try clear hcz10);(try clear hcz12);(try clear hcz15);(try clear hfz10);(try clear hfz12);(try clear hfz15)
 obtain ⟨kq, x21_2, rfl, HA, HJ2, BK685, BK686, HB⟩ := hcut
 cases kq with
 | zero => exact absurd HA.out (by simp [headgatelaw18_WireBack.j0])
 | succ kj2 =>
  have H := HA.out
  clear HA
  simp only [headgatelaw18_WireBack.j0] at H
  by_cases c17 : x21_2 = true
  ·subst c17
   have H1 : ((headgatelaw18_awake.f kj2).bind fun t689 => (some t689)) = some r := by rw [if_pos rfl] at H; exact H
   clear H
   have H := H1
   clear H1
   replace H := Option.bind_eq_some_iff.mp H
   obtain ⟨t689, A180, H⟩ := H
   replace H : (some t689) = some r := H
   have A18 := Aside0.mk A180
   clear A180
   obtain rfl := Option.some.inj H
   go_wp2_with (first | ((with_reducible refine gate_callee (f := 9) rfl ?_); refine goesL_ (some 22) rfl rfl Try.func9 (by kernel_rfl) rfl #[] rfl Zz.g ?_; (with_reducible refine (headgatelaw18_awake.calls kj2  t689 _ A18.out).mono ?_); rintro e w19 ⟨rfl, hb⟩; refine ⟨_, rfl, ?_⟩; replace BK685 := Aside0.mk (Zz.bb BK685.out hb); replace BK686 := Aside0.mk (Zz.bb BK686.out hb); replace HB := Aside0.mk (below_step (Zz.i HB.out) hb); (try clear hb)))
   go_ret
   exact ⟨by first | rfl | (simp [errW_none, errW_some] <;> rfl) | (simp [*, errW_none, errW_some] <;> rfl), by repeat (first | (with_reducible first | exact HB.out | apply below_alloc | apply pw_below_drewN | apply below_drew1 | refine below_set ?_ GE685.out | refine below_set ?_ GE686.out) | exact HB.out)⟩
  replace c17 := Bool.eq_false_iff.mpr c17
  subst c17
  have H1 : ((wire_EncodeAsk.f kj2 a0_0 a0_1 a0_2 a0_3 a0_4 a0_5 a0_6 a0_7 a0_8 a0_9 a0_10 a0_11 a0_12 a0_13 a0_14 a0_15 a0_16 l0_17).bind fun bt690 => ((wire_EncodeReply.f kj2 a1_0 a1_1 a1_2 a1_3 l1_4 l1_5).bind fun bt692 => (if bt690.2 = 0 then ((wire_DecodeAsk.f kj2 bt690.1).bind fun bt694 => (if bt694.2.2.2.2.2.2.2.2.2.2.2.2.2.2.2.2.2.2 = 0 then ((headgateref18_SameAsk.f kj2 a0_0 a0_1 a0_2 a0_3 a0_4 a0_5 a0_6 a0_7 a0_8 a0_9 a0_10 a0_11 a0_12 a0_13 a0_14 a0_15 a0_16 l0_17 bt694.1 bt694.2.1 bt694.2.2.1 bt694.2.2.2.1 bt694.2.2.2.2.1 bt694.2.2.2.2.2.1 bt694.2.2.2.2.2.2.1 bt694.2.2.2.2.2.2.2.1 bt694.2.2.2.2.2.2.2.2.1 bt694.2.2.2.2.2.2.2.2.2.1 bt694.2.2.2.2.2.2.2.2.2.2.1 bt694.2.2.2.2.2.2.2.2.2.2.2.1 bt694.2.2.2.2.2.2.2.2.2.2.2.2.1 bt694.2.2.2.2.2.2.2.2.2.2.2.2.2.1 bt694.2.2.2.2.2.2.2.2.2.2.2.2.2.2.1 bt694.2.2.2.2.2.2.2.2.2.2.2.2.2.2.2.1 bt694.2.2.2.2.2.2.2.2.2.2.2.2.2.2.2.2.1 bt694.2.2.2.2.2.2.2.2.2.2.2.2.2.2.2.2.2.1).bind fun t716 => (if t716 = true then (headgatelaw18_WireBack.j1 kj2 bt690.1 bt690.2 bt692.1 bt692.2 a1_0 a1_1 a1_2 a1_3 l1_4 l1_5) else (some false))) else (some false))) else (headgatelaw18_WireBack.j1 kj2 bt690.1 bt690.2 bt692.1 bt692.2 a1_0 a1_1 a1_2 a1_3 l1_4 l1_5)))) = some r := by rw [if_neg (show ¬ (false = true) by decide)] at H; exact H
  clear H
  have H := H1
  clear H1
  replace H := Option.bind_eq_some_iff.mp H
  obtain ⟨⟨t690, t691⟩, A200, H⟩ := H
  replace H : ((wire_EncodeReply.f kj2 a1_0 a1_1 a1_2 a1_3 l1_4 l1_5).bind fun bt692 => (if t691 = 0 then ((wire_DecodeAsk.f kj2 t690).bind fun bt694 => (if bt694.2.2.2.2.2.2.2.2.2.2.2.2.2.2.2.2.2.2 = 0 then ((headgateref18_SameAsk.f kj2 a0_0 a0_1 a0_2 a0_3 a0_4 a0_5 a0_6 a0_7 a0_8 a0_9 a0_10 a0_11 a0_12 a0_13 a0_14 a0_15 a0_16 l0_17 bt694.1 bt694.2.1 bt694.2.2.1 bt694.2.2.2.1 bt694.2.2.2.2.1 bt694.2.2.2.2.2.1 bt694.2.2.2.2.2.2.1 bt694.2.2.2.2.2.2.2.1 bt694.2.2.2.2.2.2.2.2.1 bt694.2.2.2.2.2.2.2.2.2.1 bt694.2.2.2.2.2.2.2.2.2.2.1 bt694.2.2.2.2.2.2.2.2.2.2.2.1 bt694.2.2.2.2.2.2.2.2.2.2.2.2.1 bt694.2.2.2.2.2.2.2.2.2.2.2.2.2.1 bt694.2.2.2.2.2.2.2.2.2.2.2.2.2.2.1 bt694.2.2.2.2.2.2.2.2.2.2.2.2.2.2.2.1 bt694.2.2.2.2.2.2.2.2.2.2.2.2.2.2.2.2.1 bt694.2.2.2.2.2.2.2.2.2.2.2.2.2.2.2.2.2.1).bind fun t716 => (if t716 = true then (headgatelaw18_WireBack.j1 kj2 t690 t691 bt692.1 bt692.2 a1_0 a1_1 a1_2 a1_3 l1_4 l1_5) else (some false))) else (some false))) else (headgatelaw18_WireBack.j1 kj2 t690 t691 bt692.1 bt692.2 a1_0 a1_1 a1_2 a1_3 l1_4 l1_5))) = some r := H
  have A20 := Aside0.mk A200
  clear A200
  replace H := Option.bind_eq_some_iff.mp H
  obtain ⟨⟨t692, t693⟩, A210, H⟩ := H
  replace H : (if t691 = 0 then ((wire_DecodeAsk.f kj2 t690).bind fun bt694 => (if bt694.2.2.2.2.2.2.2.2.2.2.2.2.2.2.2.2.2.2 = 0 then ((headgateref18_SameAsk.f kj2 a0_0 a0_1 a0_2 a0_3 a0_4 a0_5 a0_6 a0_7 a0_8 a0_9 a0_10 a0_11 a0_12 a0_13 a0_14 a0_15 a0_16 l0_17 bt694.1 bt694.2.1 bt694.2.2.1 bt694.2.2.2.1 bt694.2.2.2.2.1 bt694.2.2.2.2.2.1 bt694.2.2.2.2.2.2.1 bt694.2.2.2.2.2.2.2.1 bt694.2.2.2.2.2.2.2.2.1 bt694.2.2.2.2.2.2.2.2.2.1 bt694.2.2.2.2.2.2.2.2.2.2.1 bt694.2.2.2.2.2.2.2.2.2.2.2.1 bt694.2.2.2.2.2.2.2.2.2.2.2.2.1 bt694.2.2.2.2.2.2.2.2.2.2.2.2.2.1 bt694.2.2.2.2.2.2.2.2.2.2.2.2.2.2.1 bt694.2.2.2.2.2.2.2.2.2.2.2.2.2.2.2.1 bt694.2.2.2.2.2.2.2.2.2.2.2.2.2.2.2.2.1 bt694.2.2.2.2.2.2.2.2.2.2.2.2.2.2.2.2.2.1).bind fun t716 => (if t716 = true then (headgatelaw18_WireBack.j1 kj2 t690 t691 t692 t693 a1_0 a1_1 a1_2 a1_3 l1_4 l1_5) else (some false))) else (some false))) else (headgatelaw18_WireBack.j1 kj2 t690 t691 t692 t693 a1_0 a1_1 a1_2 a1_3 l1_4 l1_5)) = some r := H
  have A21 := Aside0.mk A210
  clear A210
  have HC22 := Aside0.mk H
  clear H
  have hnb23 := NB685_686.out
  have hnc23 := NB686_685.out
  have hcz24 := Zz.c18 BK685.out
  have hfz24 := blk_frozen BK685.out
  go_upto_if 34 with (first | ((with_reducible refine gate_callee (f := 16) rfl ?_); refine goesL_ (some 25) rfl rfl Try.func16 (by kernel_rfl) rfl #[.agg #[.int .i64 a0_0, .int .i64 a0_1, .int .i64 a0_2, .int .i64 a0_3, .int .i64 a0_4, .int .i64 a0_5, .int .i64 a0_6, .int .i64 a0_7, .int .i64 a0_8, .int .i64 a0_9, .int .i64 a0_10, .int .i64 a0_11, .bool a0_12, .int .i64 a0_13, .int .i64 a0_14, .int .i64 a0_15, .int .i64 a0_16, .slice A0_17 l0_17.length c0_17]] rfl Zz.g ?_; (with_reducible refine (wire_EncodeAsk.calls kj2 a0_0 a0_1 a0_2 a0_3 a0_4 a0_5 a0_6 a0_7 a0_8 a0_9 a0_10 a0_11 a0_12 a0_13 a0_14 a0_15 a0_16 _ _ l0_17 t690 t691 _ ?side1 ?side2 A20.out).mono ?_); (case side1 => exact Zz.k (Kd.C_below HR0_17.out HB.out)); (case side2 => exact HC0_17.out); rintro e w25 ⟨rfl, hb⟩; refine ⟨_, rfl, ?_⟩; replace BK685 := Aside0.mk (Zz.bb BK685.out hb); replace BK686 := Aside0.mk (Zz.bb BK686.out hb); replace HB := Aside0.mk (below_step (Zz.i HB.out) hb); (try clear hb); have hcz26 := Zz.c6 BK686.out; have hfz26 := blk_frozen BK686.out) | ((with_reducible refine gate_callee (f := 10) rfl ?_); refine goesL_ (some 30) rfl rfl Try.func10 (by kernel_rfl) rfl #[.agg #[.int .i64 a1_0, .int .i64 a1_1, .int .i64 a1_2, .int .i64 a1_3, .slice A1_4 l1_4.length c1_4, .slice A1_5 l1_5.length c1_5]] rfl Zz.g ?_; (with_reducible refine (wire_EncodeReply.calls kj2 a1_0 a1_1 a1_2 a1_3 _ _ l1_4 _ _ l1_5 t692 t693 _ ?side1 ?side2 ?side3 ?side4 A21.out).mono ?_); (case side1 => exact Zz.k (Kd.C_below HR1_4.out HB.out)); (case side2 => exact HC1_4.out); (case side3 => exact Zz.k (Kd.C_below HR1_5.out HB.out)); (case side4 => exact HC1_5.out); rintro e w27 ⟨rfl, hb⟩; refine ⟨_, rfl, ?_⟩; replace BK685 := Aside0.mk (Zz.bb BK685.out hb); replace BK686 := Aside0.mk (Zz.bb BK686.out hb); replace HB := Aside0.mk (below_step (Zz.i HB.out) hb); (try clear hb)))
  (try simp only [Act.put, List.setIfInBounds_toArray, List.set_cons_zero, List.set_cons_succ])
  go_cut [] (fun wc => ∃ (kq : Nat), Aside0 (headgatelaw18_WireBack.j1 kq t690 t691 t692 t693 a1_0 a1_1 a1_2 a1_3 l1_4 l1_5 = some r) ∧ Aside0 (kq ≤ kj2) ∧ Aside0 (wc.heap[gb685]? = some (.cells #[.int .i64 a0_0, .int .i64 a0_1, .int .i64 a0_2, .int .i64 a0_3, .int .i64 a0_4, .int .i64 a0_5, .int .i64 a0_6, .int .i64 a0_7, .int .i64 a0_8, .int .i64 a0_9, .int .i64 a0_10, .int .i64 a0_11, .bool a0_12, .int .i64 a0_13, .int .i64 a0_14, .int .i64 a0_15, .int .i64 a0_16, (.slice A0_17 l0_17.length c0_17)] 43 (0, 0))) ∧ Aside0 (wc.heap[gb686]? = some (.cells #[.int .i64 a1_0, .int .i64 a1_1, .int .i64 a1_2, .int .i64 a1_3, (.slice A1_4 l1_4.length c1_4), (.slice A1_5 l1_5.length c1_5)] 26 (0, 0))) ∧ Aside0 (Below w.heap.size w wc))
  case first =>
   have H := HC22.out
   clear HC22
   by_cases c28 : t691 = 0
   ·rw [if_pos c28] at H
    have c28b0 : (t691 == 0) = true := beq_iff_eq.mpr c28
    have c28b1 : (t691 != 0) = false := bne_eq_false_iff_eq.mpr c28
    clear c28
    (first | rw [c28b0] | rw [c28b9] | (simp only [i64_w, i32_w]; rw [c28b0]) | skip)
    replace H := Option.bind_eq_some_iff.mp H
    obtain ⟨⟨t694, t695, t696, t697, t698, t699, t700, t701, t702, t703, t704, t705, t706, t707, t708, t709, t710, t711, t714⟩, A290, H⟩ := H
    replace H : (if t714 = 0 then ((headgateref18_SameAsk.f kj2 a0_0 a0_1 a0_2 a0_3 a0_4 a0_5 a0_6 a0_7 a0_8 a0_9 a0_10 a0_11 a0_12 a0_13 a0_14 a0_15 a0_16 l0_17 t694 t695 t696 t697 t698 t699 t700 t701 t702 t703 t704 t705 t706 t707 t708 t709 t710 t711).bind fun t716 => (if t716 = true then (headgatelaw18_WireBack.j1 kj2 t690 t691 t692 t693 a1_0 a1_1 a1_2 a1_3 l1_4 l1_5) else (some false))) else (some false)) = some r := H
    have A29 := Aside0.mk A290
    clear A290
    by_cases c30 : t714 = 0
    ·rw [if_pos c30] at H
     have c30b0 : (t714 == 0) = true := beq_iff_eq.mpr c30
     have c30b1 : (t714 != 0) = false := bne_eq_false_iff_eq.mpr c30
     clear c30
     replace H := Option.bind_eq_some_iff.mp H
     obtain ⟨t716, A310, H⟩ := H
     replace H : (if t716 = true then (headgatelaw18_WireBack.j1 kj2 t690 t691 t692 t693 a1_0 a1_1 a1_2 a1_3 l1_4 l1_5) else (some false)) = some r := H
     have A31 := Aside0.mk A310
     clear A310
     by_cases c32 : t716 = true
     ·subst c32
      have H1 : (headgatelaw18_WireBack.j1 kj2 t690 t691 t692 t693 a1_0 a1_1 a1_2 a1_3 l1_4 l1_5) = some r := by rw [if_pos rfl] at H; exact H
      clear H
      have H := H1
      clear H1
      have H' := Aside0.mk H
      clear H
      go_wp2_with (first | ((with_reducible refine gate_callee (f := 18) rfl ?_); refine goesL_ (some 37) rfl rfl Try.func18 (by kernel_rfl) rfl #[.string t690] rfl Zz.g ?_; (with_reducible refine (wire_DecodeAsk.calls kj2 t690 t694 t695 t696 t697 t698 t699 t700 t701 t702 t703 t704 t705 t706 t707 t708 t709 t710 t711 t714 _ A29.out).mono ?_); rintro e w33 ⟨v712, rfl, ho0, hb⟩; refine ⟨_, rfl, ?_⟩; have HO713 := Aside0.mk (Kd.R_lower ho0 (below_size (Zz.i HB.out))); replace BK685 := Aside0.mk (Zz.bb BK685.out hb); replace BK686 := Aside0.mk (Zz.bb BK686.out hb); replace HB := Aside0.mk (below_step (Zz.i HB.out) hb); (try clear hb); (try clear ho0)) | ((with_reducible refine gate_dst (N := 9) rfl ?_); refine box_event ?hg (N := 9) ?hd (cs := #[.int .i64 0, .int .i64 0, .int .i64 0, .int .i64 0, .int .i64 0, .int .i64 0, .int .i64 0, .int .i64 0, .int .i64 0, .int .i64 0, .int .i64 0, .int .i64 0, .bool false, .int .i64 0, .int .i64 0, .int .i64 0, .int .i64 0, .slice none 0 0]) (t := 43) ?hr ?_; (case hd => rfl); (case hg => rfl); (case hr => first | (go_simp; done) | (go_simp; rfl)); intro gb715 hg w34 hbox hb; replace HO713 := Aside0.mk (Kd.R_below (Zz.r HO713.out) hb); have BK715 := Aside0.mk (hbox); have GW715 := Aside0.mk (Zz.ge hg HB.out); have GE715 := Aside0.mk (Zz.ge hg HB.out); replace HB := Aside0.mk (below_step (Zz.i HB.out) hb); have NB685_715 := Aside0.mk (Zz.nl hg BK685.out); have NB715_685 := Aside0.mk (Zz.ng hg BK685.out); replace BK685 := Aside0.mk (Zz.bb BK685.out hb); have NB686_715 := Aside0.mk (Zz.nl hg BK686.out); have NB715_686 := Aside0.mk (Zz.ng hg BK686.out); replace BK686 := Aside0.mk (Zz.bb BK686.out hb); clear hb hbox hg; have hnb35 := NB715_685.out; have hnc35 := NB685_715.out; have hnb36 := NB715_686.out; have hnc36 := NB686_715.out; have hcz37 := Zz.c18 BK715.out; have hfz37 := blk_frozen BK715.out; obtain ⟨Ao38, co38, eo38⟩ := Kd.R_slice HO713.out; subst eo38; have hld_38 := Kl.put BK715.out (.int .i64 t694) (.int .i64 t695) (.int .i64 t696) (.int .i64 t697) (.int .i64 t698) (.int .i64 t699) (.int .i64 t700) (.int .i64 t701) (.int .i64 t702) (.int .i64 t703) (.int .i64 t704) (.int .i64 t705) (.bool t706) (.int .i64 t707) (.int .i64 t708) (.int .i64 t709) (.int .i64 t710) (.slice Ao38 t711.length co38); have hlf_685_38 := Kl.far BK685.out NB685_715.out (.int .i64 t694) (.int .i64 t695) (.int .i64 t696) (.int .i64 t697) (.int .i64 t698) (.int .i64 t699) (.int .i64 t700) (.int .i64 t701) (.int .i64 t702) (.int .i64 t703) (.int .i64 t704) (.int .i64 t705) (.bool t706) (.int .i64 t707) (.int .i64 t708) (.int .i64 t709) (.int .i64 t710) (.slice Ao38 t711.length co38); have hnb39 := NB685_686.out; have hnc39 := NB686_685.out; have hcz40 := Zz.c18 BK685.out; have hfz40 := blk_frozen BK685.out) | (go_at_call 20; (with_reducible refine (headgateref18_SameAsk.calls kj2 a0_0 a0_1 a0_2 a0_3 a0_4 a0_5 a0_6 a0_7 a0_8 a0_9 a0_10 a0_11 a0_12 a0_13 a0_14 a0_15 a0_16 _ _ l0_17 t694 t695 t696 t697 t698 t699 t700 t701 t702 t703 t704 t705 t706 t707 t708 t709 t710 _ _ t711 true _ ?side1 ?side2 ?side3 ?side4 A31.out).mono ?_); (case side1 => exact Kd.C_below HR0_17.out (Zz.i HB.out)); (case side2 => exact HC0_17.out); (case side3 => refine (Kd.R_reads' (e := 57) (base := w.heap.size) (ok := fun k_ => True) (n := t711.length) (c := co38) ?_).2.2; exact (by (with_reducible repeat (first | apply Kd.R_alloc | apply Kd.R_drewN | apply Kd.R_drew)); exact (Kd.R_mono (Zz.f18 (Kd.R_types HO713.out BK715.out (by decide)) (fun _ hk => hk.2)) (fun _ h_ => h_.1)))); (case side4 => exact (Kd.R_reads' HO713.out).2.1); rintro e w41 ⟨rfl, hb⟩; have n0_ := Aside0.mk (Kd.R_below (by (with_reducible repeat (first | apply Kd.R_alloc | apply Kd.R_drewN | apply Kd.R_drew)); exact (Kd.R_mono (Zz.f18 (Kd.R_types HO713.out BK715.out (by decide)) (fun _ hk => hk.2)) (fun _ h_ => h_.1))) hb); have n1_ := Aside0.mk (blk_below (g := gb685) (o := .cells #[.int .i64 a0_0, .int .i64 a0_1, .int .i64 a0_2, .int .i64 a0_3, .int .i64 a0_4, .int .i64 a0_5, .int .i64 a0_6, .int .i64 a0_7, .int .i64 a0_8, .int .i64 a0_9, .int .i64 a0_10, .int .i64 a0_11, .bool a0_12, .int .i64 a0_13, .int .i64 a0_14, .int .i64 a0_15, .int .i64 a0_16, .slice A0_17 l0_17.length c0_17] 43 (0, 0)) (by exact Zz.q18 BK685.out NB685_715.out) hb); have n2_ := Aside0.mk (blk_below (g := gb686) (o := .cells #[.int .i64 a1_0, .int .i64 a1_1, .int .i64 a1_2, .int .i64 a1_3, .slice A1_4 l1_4.length c1_4, .slice A1_5 l1_5.length c1_5] 26 (0, 0)) (by exact Zz.q18 BK686.out NB686_715.out) hb); have n3_ := Aside0.mk (blk_below (g := gb715) (o := .cells #[.int .i64 t694, .int .i64 t695, .int .i64 t696, .int .i64 t697, .int .i64 t698, .int .i64 t699, .int .i64 t700, .int .i64 t701, .int .i64 t702, .int .i64 t703, .int .i64 t704, .int .i64 t705, .bool t706, .int .i64 t707, .int .i64 t708, .int .i64 t709, .int .i64 t710, .slice Ao38 t711.length co38] 43 (0, 0)) (by (with_reducible repeat (first | refine blk_drewN ?_ _ | refine blk_drew ?_ | refine blk_alloc ?_ _)); exact Zz.u18_0_17 BK715.out) hb); have n4_ := Aside0.mk (below_step (Zz.i HB.out) hb); clear HO713; clear BK685; clear BK686; clear BK715; clear HB; have HO713 := n0_; have BK685 := n1_; have BK686 := n2_; have BK715 := n3_; have HB := n4_; clear n0_ n1_ n2_ n3_ n4_; (try clear hb); (try clear hk)))
      go_meet
      case rel => exact ⟨_, H', ⟨by have := HJ2.out; first | omega | exact Nat.le_refl _⟩, ⟨Zz.p BK685.out⟩, ⟨Zz.p BK686.out⟩, ⟨by repeat (first | (with_reducible first | exact HB.out | apply below_alloc | apply pw_below_drewN | apply below_drew1 | refine below_set ?_ GE685.out | refine below_set ?_ GE686.out | refine below_set ?_ GE715.out) | exact HB.out)⟩⟩
     replace c32 := Bool.eq_false_iff.mpr c32
     subst c32
     have H1 : (some false) = some r := by rw [if_neg (show ¬ (false = true) by decide)] at H; exact H
     clear H
     have H := H1
     clear H1
     obtain rfl := Option.some.inj H
     exact absurd hT_ Bool.false_ne_true
    rw [if_neg c30] at H
    have c30b0 : (t714 == 0) = false := beq_eq_false_iff_ne.mpr c30
    have c30b1 : (t714 != 0) = true := bne_iff_ne.mpr c30
    obtain rfl := Option.some.inj H
    exact absurd hT_ Bool.false_ne_true
   rw [if_neg c28] at H
   have c28b0 : (t691 == 0) = false := beq_eq_false_iff_ne.mpr c28
   have c28b1 : (t691 != 0) = true := bne_iff_ne.mpr c28
   (first | rw [c28b0] | rw [c28b9] | (simp only [i64_w, i32_w]; rw [c28b0]) | skip)
   have H' := Aside0.mk H
   clear H
   go_wp2
   go_meet
   case rel => exact ⟨_, H', ⟨by have := HJ2.out; first | omega | exact Nat.le_refl _⟩, ⟨Zz.p BK685.out⟩, ⟨Zz.p BK686.out⟩, ⟨by repeat (first | (with_reducible first | exact HB.out | apply below_alloc | apply pw_below_drewN | apply below_drew1 | refine below_set ?_ GE685.out | refine below_set ?_ GE686.out) | exact HB.out)⟩⟩
  clear HC22
  (try clear c1);(try clear c2);(try clear p2);(try clear c3);(try clear c4);(try clear c5);(try clear c7);(try clear c9);(try clear c10);(try clear c14);(try clear c15);(try clear c16);(try clear c17);(try clear c18);(try clear c23);(try clear c28);(try clear c28b0);(try clear c28b1);(try clear c30);(try clear c30b0);(try clear c30b1);(try clear c32);(try clear c35);(try clear c36);(try clear c39);(try clear c44);(try clear c45);(try clear c48);(try clear c53);(try clear c54);(try clear hcz10);(try clear hcz12);(try clear hcz15);(try clear hcz24);(try clear hcz26);(try clear hcz37);(try clear hcz40);(try clear hcz46);(try clear hcz49);(try clear hcz55);(try clear hfz10);(try clear hfz12);(try clear hfz15);(try clear hfz24);(try clear hfz26);(try clear hfz37);(try clear hfz40);(try clear hfz46);(try clear hfz49);(try clear hfz55)
  obtain ⟨kq, HA, HJ21, BK685, BK686, HB⟩ := hcut
  cases kq with
  | zero => exact absurd HA.out (by simp [headgatelaw18_WireBack.j1])
  | succ kj21 =>
   have H := HA.out
   clear HA
   simp only [headgatelaw18_WireBack.j1] at H
   by_cases c57 : t693 = 0
   ·rw [if_pos c57] at H
    have c57b0 : (t693 == 0) = true := beq_iff_eq.mpr c57
    have c57b1 : (t693 != 0) = false := bne_eq_false_iff_eq.mpr c57
    clear c57
    replace H := Option.bind_eq_some_iff.mp H
    obtain ⟨⟨t717, t718, t719, t720, t721, t724, t727⟩, A580, H⟩ := H
    replace H : (if t727 = 0 then ((headgateref18_SameReply.f kj21 a1_0 a1_1 a1_2 a1_3 l1_4 l1_5 t717 t718 t719 t720 t721 t724).bind fun t729 => (if t729 = true then (if t691 = 0 then ((headgatelaw18_awake.f kj21).bind fun t730 => (some t730)) else (if t690.toList = ([] : List UInt8) then ((headgatelaw18_awake.f kj21).bind fun t731 => (some t731)) else (some false))) else (some false))) else (some false)) = some r := H
    have A58 := Aside0.mk A580
    clear A580
    by_cases c59 : t727 = 0
    ·rw [if_pos c59] at H
     have c59b0 : (t727 == 0) = true := beq_iff_eq.mpr c59
     have c59b1 : (t727 != 0) = false := bne_eq_false_iff_eq.mpr c59
     clear c59
     replace H := Option.bind_eq_some_iff.mp H
     obtain ⟨t729, A600, H⟩ := H
     replace H : (if t729 = true then (if t691 = 0 then ((headgatelaw18_awake.f kj21).bind fun t730 => (some t730)) else (if t690.toList = ([] : List UInt8) then ((headgatelaw18_awake.f kj21).bind fun t731 => (some t731)) else (some false))) else (some false)) = some r := H
     have A60 := Aside0.mk A600
     clear A600
     by_cases c61 : t729 = true
     ·subst c61
      have H1 : (if t691 = 0 then ((headgatelaw18_awake.f kj21).bind fun t730 => (some t730)) else (if t690.toList = ([] : List UInt8) then ((headgatelaw18_awake.f kj21).bind fun t731 => (some t731)) else (some false))) = some r := by rw [if_pos rfl] at H; exact H
      clear H
      have H := H1
      clear H1
      by_cases c62 : t691 = 0
      ·rw [if_pos c62] at H
       have c62b0 : (t691 == 0) = true := beq_iff_eq.mpr c62
       have c62b1 : (t691 != 0) = false := bne_eq_false_iff_eq.mpr c62
       clear c62
       replace H := Option.bind_eq_some_iff.mp H
       obtain ⟨t730, A630, H⟩ := H
       replace H : (some t730) = some r := H
       have A63 := Aside0.mk A630
       clear A630
       obtain rfl := Option.some.inj H
       go_wp2_with (first | ((with_reducible refine gate_callee (f := 12) rfl ?_); refine goesL_ (some 52) rfl rfl Try.func12 (by kernel_rfl) rfl #[.string t692] rfl Zz.g ?_; (with_reducible refine (wire_DecodeReply.calls kj21 t692 t717 t718 t719 t720 t721 t724 t727 _ A58.out).mono ?_); rintro e w64 ⟨v722, v725, rfl, ho0, ho1, hb⟩; refine ⟨_, rfl, ?_⟩; have HO723 := Aside0.mk (Kd.R_lower ho0 (below_size (Zz.i HB.out))); have HO726 := Aside0.mk (Kd.R_lower ho1 (below_size (Zz.i HB.out))); replace BK685 := Aside0.mk (Zz.bb BK685.out hb); replace BK686 := Aside0.mk (Zz.bb BK686.out hb); replace HB := Aside0.mk (below_step (Zz.i HB.out) hb); (try clear hb); (try clear ho0); (try clear ho1)) | ((with_reducible refine gate_dst (N := 11) rfl ?_); refine box_event ?hg (N := 11) ?hd (cs := #[.int .i64 0, .int .i64 0, .int .i64 0, .int .i64 0, .slice none 0 0, .slice none 0 0]) (t := 26) ?hr ?_; (case hd => rfl); (case hg => rfl); (case hr => first | (go_simp; done) | (go_simp; rfl)); intro gb728 hg w65 hbox hb; replace HO723 := Aside0.mk (Kd.R_below (Zz.r HO723.out) hb); replace HO726 := Aside0.mk (Kd.R_below (Zz.r HO726.out) hb); have BK728 := Aside0.mk (hbox); have GW728 := Aside0.mk (Zz.ge hg HB.out); have GE728 := Aside0.mk (Zz.ge hg HB.out); replace HB := Aside0.mk (below_step (Zz.i HB.out) hb); have NB685_728 := Aside0.mk (Zz.nl hg BK685.out); have NB728_685 := Aside0.mk (Zz.ng hg BK685.out); replace BK685 := Aside0.mk (Zz.bb BK685.out hb); have NB686_728 := Aside0.mk (Zz.nl hg BK686.out); have NB728_686 := Aside0.mk (Zz.ng hg BK686.out); replace BK686 := Aside0.mk (Zz.bb BK686.out hb); clear hb hbox hg; have hnb66 := NB728_685.out; have hnc66 := NB685_728.out; have hnb67 := NB728_686.out; have hnc67 := NB686_728.out; have hcz68 := Zz.c6 BK728.out; have hfz68 := blk_frozen BK728.out; obtain ⟨Ao69, co69, eo69⟩ := Kd.R_slice HO723.out; subst eo69; obtain ⟨Ao70, co70, eo70⟩ := Kd.R_slice HO726.out; subst eo70; have hnb71 := NB686_685.out; have hnc71 := NB685_686.out; have hcz72 := Zz.c6 BK686.out; have hfz72 := blk_frozen BK686.out) | (go_at_call 14; (with_reducible refine (headgateref18_SameReply.calls kj21 a1_0 a1_1 a1_2 a1_3 _ _ l1_4 _ _ l1_5 t717 t718 t719 t720 _ _ t721 _ _ t724 true _ ?side1 ?side2 ?side3 ?side4 ?side5 ?side6 ?side7 ?side8 A60.out).mono ?_); (case side1 => exact Kd.C_below HR1_4.out (Zz.i HB.out)); (case side2 => exact HC1_4.out); (case side3 => exact Kd.C_below HR1_5.out (Zz.i HB.out)); (case side4 => exact HC1_5.out); (case side5 => refine (Kd.R_reads' (e := 3) (base := w.heap.size) (ok := fun k_ => True) (n := t721.length) (c := co69) ?_).2.2; exact (by (with_reducible repeat (first | apply Kd.R_alloc | apply Kd.R_drewN | apply Kd.R_drew)); exact (Kd.R_mono (Zz.f6 (Kd.R_types HO723.out BK728.out (by decide)) (fun _ hk => hk.2)) (fun _ h_ => h_.1)))); (case side6 => exact (Kd.R_reads' HO723.out).2.1); (case side7 => refine (Kd.R_reads' (e := 59) (base := w.heap.size) (ok := fun k_ => True) (n := t724.length) (c := co70) ?_).2.2; exact (by (with_reducible repeat (first | apply Kd.R_alloc | apply Kd.R_drewN | apply Kd.R_drew)); exact (Kd.R_mono (Zz.f6 (Kd.R_types HO726.out BK728.out (by decide)) (fun _ hk => hk.2)) (fun _ h_ => h_.1)))); (case side8 => exact (Kd.R_reads' HO726.out).2.1); rintro e w73 ⟨rfl, hb⟩; have n0_ := Aside0.mk (Kd.R_below (by (with_reducible repeat (first | apply Kd.R_alloc | apply Kd.R_drewN | apply Kd.R_drew)); exact (Kd.R_mono (Zz.f6 (Kd.R_types HO723.out BK728.out (by decide)) (fun _ hk => hk.2)) (fun _ h_ => h_.1))) hb); have n1_ := Aside0.mk (Kd.R_below (by (with_reducible repeat (first | apply Kd.R_alloc | apply Kd.R_drewN | apply Kd.R_drew)); exact (Kd.R_mono (Zz.f6 (Kd.R_types HO726.out BK728.out (by decide)) (fun _ hk => hk.2)) (fun _ h_ => h_.1))) hb); have n2_ := Aside0.mk (blk_below (g := gb685) (o := .cells #[.int .i64 a0_0, .int .i64 a0_1, .int .i64 a0_2, .int .i64 a0_3, .int .i64 a0_4, .int .i64 a0_5, .int .i64 a0_6, .int .i64 a0_7, .int .i64 a0_8, .int .i64 a0_9, .int .i64 a0_10, .int .i64 a0_11, .bool a0_12, .int .i64 a0_13, .int .i64 a0_14, .int .i64 a0_15, .int .i64 a0_16, .slice A0_17 l0_17.length c0_17] 43 (0, 0)) (by exact Zz.q6 BK685.out NB685_728.out) hb); have n3_ := Aside0.mk (blk_below (g := gb686) (o := .cells #[.int .i64 a1_0, .int .i64 a1_1, .int .i64 a1_2, .int .i64 a1_3, .slice A1_4 l1_4.length c1_4, .slice A1_5 l1_5.length c1_5] 26 (0, 0)) (by exact Zz.q6 BK686.out NB686_728.out) hb); have n4_ := Aside0.mk (blk_below (g := gb728) (o := .cells #[.int .i64 t717, .int .i64 t718, .int .i64 t719, .int .i64 t720, .slice Ao69 t721.length co69, .slice Ao70 t724.length co70] 26 (0, 0)) (by (with_reducible repeat (first | refine blk_drewN ?_ _ | refine blk_drew ?_ | refine blk_alloc ?_ _)); exact Zz.u6_0_5 BK728.out) hb); have n5_ := Aside0.mk (below_step (Zz.i HB.out) hb); clear HO723; clear HO726; clear BK685; clear BK686; clear BK728; clear HB; have HO723 := n0_; have HO726 := n1_; have BK685 := n2_; have BK686 := n3_; have BK728 := n4_; have HB := n5_; clear n0_ n1_ n2_ n3_ n4_ n5_; (try clear hb); (try clear hk)) | (go_at_call 9; (with_reducible refine (headgatelaw18_awake.calls kj21  t730 _ A63.out).mono ?_); rintro e w74 ⟨rfl, hb⟩; replace HO723 := Aside0.mk (Kd.R_below (Zz.r HO723.out) hb); replace HO726 := Aside0.mk (Kd.R_below (Zz.r HO726.out) hb); replace BK685 := Aside0.mk (Zz.bb BK685.out hb); replace BK686 := Aside0.mk (Zz.bb BK686.out hb); replace BK728 := Aside0.mk (Zz.bb BK728.out hb); replace HB := Aside0.mk (below_step (Zz.i HB.out) hb); (try clear hb)))
       go_ret
       exact ⟨by first | rfl | (simp [errW_none, errW_some] <;> rfl) | (simp [*, errW_none, errW_some] <;> rfl), by repeat (first | (with_reducible first | exact HB.out | apply below_alloc | apply pw_below_drewN | apply below_drew1 | refine below_set ?_ GE685.out | refine below_set ?_ GE686.out | refine below_set ?_ GE728.out) | exact HB.out)⟩
      rw [if_neg c62] at H
      have c62b0 : (t691 == 0) = false := beq_eq_false_iff_ne.mpr c62
      have c62b1 : (t691 != 0) = true := bne_iff_ne.mpr c62
      by_cases c75 : t690.toList = ([] : List UInt8)
      ·rw [if_pos c75] at H
       have c75b0 : (t690.toList == ([] : List UInt8)) = true := beq_iff_eq.mpr c75
       try (have c75b9 : t690.toList.isEmpty = true := List.isEmpty_iff.mpr (beq_iff_eq.mp c75b0))
       have c75b1 : (t690.toList != ([] : List UInt8)) = false := bne_eq_false_iff_eq.mpr c75
       clear c75
       replace H := Option.bind_eq_some_iff.mp H
       obtain ⟨t731, A760, H⟩ := H
       replace H : (some t731) = some r := H
       have A76 := Aside0.mk A760
       clear A760
       obtain rfl := Option.some.inj H
       go_wp2_with (first | ((with_reducible refine gate_callee (f := 12) rfl ?_); refine goesL_ (some 52) rfl rfl Try.func12 (by kernel_rfl) rfl #[.string t692] rfl Zz.g ?_; (with_reducible refine (wire_DecodeReply.calls kj21 t692 t717 t718 t719 t720 t721 t724 t727 _ A58.out).mono ?_); rintro e w77 ⟨v722, v725, rfl, ho0, ho1, hb⟩; refine ⟨_, rfl, ?_⟩; have HO723 := Aside0.mk (Kd.R_lower ho0 (below_size (Zz.i HB.out))); have HO726 := Aside0.mk (Kd.R_lower ho1 (below_size (Zz.i HB.out))); replace BK685 := Aside0.mk (Zz.bb BK685.out hb); replace BK686 := Aside0.mk (Zz.bb BK686.out hb); replace HB := Aside0.mk (below_step (Zz.i HB.out) hb); (try clear hb); (try clear ho0); (try clear ho1)) | ((with_reducible refine gate_dst (N := 11) rfl ?_); refine box_event ?hg (N := 11) ?hd (cs := #[.int .i64 0, .int .i64 0, .int .i64 0, .int .i64 0, .slice none 0 0, .slice none 0 0]) (t := 26) ?hr ?_; (case hd => rfl); (case hg => rfl); (case hr => first | (go_simp; done) | (go_simp; rfl)); intro gb728 hg w78 hbox hb; replace HO723 := Aside0.mk (Kd.R_below (Zz.r HO723.out) hb); replace HO726 := Aside0.mk (Kd.R_below (Zz.r HO726.out) hb); have BK728 := Aside0.mk (hbox); have GW728 := Aside0.mk (Zz.ge hg HB.out); have GE728 := Aside0.mk (Zz.ge hg HB.out); replace HB := Aside0.mk (below_step (Zz.i HB.out) hb); have NB685_728 := Aside0.mk (Zz.nl hg BK685.out); have NB728_685 := Aside0.mk (Zz.ng hg BK685.out); replace BK685 := Aside0.mk (Zz.bb BK685.out hb); have NB686_728 := Aside0.mk (Zz.nl hg BK686.out); have NB728_686 := Aside0.mk (Zz.ng hg BK686.out); replace BK686 := Aside0.mk (Zz.bb BK686.out hb); clear hb hbox hg; have hnb79 := NB728_685.out; have hnc79 := NB685_728.out; have hnb80 := NB728_686.out; have hnc80 := NB686_728.out; have hcz81 := Zz.c6 BK728.out; have hfz81 := blk_frozen BK728.out; obtain ⟨Ao82, co82, eo82⟩ := Kd.R_slice HO723.out; subst eo82; obtain ⟨Ao83, co83, eo83⟩ := Kd.R_slice HO726.out; subst eo83; have hnb84 := NB686_685.out; have hnc84 := NB685_686.out; have hcz85 := Zz.c6 BK686.out; have hfz85 := blk_frozen BK686.out) | (go_at_call 14; (with_reducible refine (headgateref18_SameReply.calls kj21 a1_0 a1_1 a1_2 a1_3 _ _ l1_4 _ _ l1_5 t717 t718 t719 t720 _ _ t721 _ _ t724 true _ ?side1 ?side2 ?side3 ?side4 ?side5 ?side6 ?side7 ?side8 A60.out).mono ?_); (case side1 => exact Kd.C_below HR1_4.out (Zz.i HB.out)); (case side2 => exact HC1_4.out); (case side3 => exact Kd.C_below HR1_5.out (Zz.i HB.out)); (case side4 => exact HC1_5.out); (case side5 => refine (Kd.R_reads' (e := 3) (base := w.heap.size) (ok := fun k_ => True) (n := t721.length) (c := co82) ?_).2.2; exact (by (with_reducible repeat (first | apply Kd.R_alloc | apply Kd.R_drewN | apply Kd.R_drew)); exact (Kd.R_mono (Zz.f6 (Kd.R_types HO723.out BK728.out (by decide)) (fun _ hk => hk.2)) (fun _ h_ => h_.1)))); (case side6 => exact (Kd.R_reads' HO723.out).2.1); (case side7 => refine (Kd.R_reads' (e := 59) (base := w.heap.size) (ok := fun k_ => True) (n := t724.length) (c := co83) ?_).2.2; exact (by (with_reducible repeat (first | apply Kd.R_alloc | apply Kd.R_drewN | apply Kd.R_drew)); exact (Kd.R_mono (Zz.f6 (Kd.R_types HO726.out BK728.out (by decide)) (fun _ hk => hk.2)) (fun _ h_ => h_.1)))); (case side8 => exact (Kd.R_reads' HO726.out).2.1); rintro e w86 ⟨rfl, hb⟩; have n0_ := Aside0.mk (Kd.R_below (by (with_reducible repeat (first | apply Kd.R_alloc | apply Kd.R_drewN | apply Kd.R_drew)); exact (Kd.R_mono (Zz.f6 (Kd.R_types HO723.out BK728.out (by decide)) (fun _ hk => hk.2)) (fun _ h_ => h_.1))) hb); have n1_ := Aside0.mk (Kd.R_below (by (with_reducible repeat (first | apply Kd.R_alloc | apply Kd.R_drewN | apply Kd.R_drew)); exact (Kd.R_mono (Zz.f6 (Kd.R_types HO726.out BK728.out (by decide)) (fun _ hk => hk.2)) (fun _ h_ => h_.1))) hb); have n2_ := Aside0.mk (blk_below (g := gb685) (o := .cells #[.int .i64 a0_0, .int .i64 a0_1, .int .i64 a0_2, .int .i64 a0_3, .int .i64 a0_4, .int .i64 a0_5, .int .i64 a0_6, .int .i64 a0_7, .int .i64 a0_8, .int .i64 a0_9, .int .i64 a0_10, .int .i64 a0_11, .bool a0_12, .int .i64 a0_13, .int .i64 a0_14, .int .i64 a0_15, .int .i64 a0_16, .slice A0_17 l0_17.length c0_17] 43 (0, 0)) (by exact Zz.q6 BK685.out NB685_728.out) hb); have n3_ := Aside0.mk (blk_below (g := gb686) (o := .cells #[.int .i64 a1_0, .int .i64 a1_1, .int .i64 a1_2, .int .i64 a1_3, .slice A1_4 l1_4.length c1_4, .slice A1_5 l1_5.length c1_5] 26 (0, 0)) (by exact Zz.q6 BK686.out NB686_728.out) hb); have n4_ := Aside0.mk (blk_below (g := gb728) (o := .cells #[.int .i64 t717, .int .i64 t718, .int .i64 t719, .int .i64 t720, .slice Ao82 t721.length co82, .slice Ao83 t724.length co83] 26 (0, 0)) (by (with_reducible repeat (first | refine blk_drewN ?_ _ | refine blk_drew ?_ | refine blk_alloc ?_ _)); exact Zz.u6_0_5 BK728.out) hb); have n5_ := Aside0.mk (below_step (Zz.i HB.out) hb); clear HO723; clear HO726; clear BK685; clear BK686; clear BK728; clear HB; have HO723 := n0_; have HO726 := n1_; have BK685 := n2_; have BK686 := n3_; have BK728 := n4_; have HB := n5_; clear n0_ n1_ n2_ n3_ n4_ n5_; (try clear hb); (try clear hk)) | (go_at_call 9; (with_reducible refine (headgatelaw18_awake.calls kj21  t731 _ A76.out).mono ?_); rintro e w87 ⟨rfl, hb⟩; replace HO723 := Aside0.mk (Kd.R_below (Zz.r HO723.out) hb); replace HO726 := Aside0.mk (Kd.R_below (Zz.r HO726.out) hb); replace BK685 := Aside0.mk (Zz.bb BK685.out hb); replace BK686 := Aside0.mk (Zz.bb BK686.out hb); replace BK728 := Aside0.mk (Zz.bb BK728.out hb); replace HB := Aside0.mk (below_step (Zz.i HB.out) hb); (try clear hb)))
       go_ret
       exact ⟨by first | rfl | (simp [errW_none, errW_some] <;> rfl) | (simp [*, errW_none, errW_some] <;> rfl), by repeat (first | (with_reducible first | exact HB.out | apply below_alloc | apply pw_below_drewN | apply below_drew1 | refine below_set ?_ GE685.out | refine below_set ?_ GE686.out | refine below_set ?_ GE728.out) | exact HB.out)⟩
      rw [if_neg c75] at H
      have c75b0 : (t690.toList == ([] : List UInt8)) = false := beq_eq_false_iff_ne.mpr c75
      try (have c75b9 : t690.toList.isEmpty = false := by rw [List.isEmpty_eq_false_iff]; exact beq_eq_false_iff_ne.mp c75b0)
      have c75b1 : (t690.toList != ([] : List UInt8)) = true := bne_iff_ne.mpr c75
      obtain rfl := Option.some.inj H
      exact absurd hT_ Bool.false_ne_true
     replace c61 := Bool.eq_false_iff.mpr c61
     subst c61
     have H1 : (some false) = some r := by rw [if_neg (show ¬ (false = true) by decide)] at H; exact H
     clear H
     have H := H1
     clear H1
     obtain rfl := Option.some.inj H
     exact absurd hT_ Bool.false_ne_true
    rw [if_neg c59] at H
    have c59b0 : (t727 == 0) = false := beq_eq_false_iff_ne.mpr c59
    have c59b1 : (t727 != 0) = true := bne_iff_ne.mpr c59
    obtain rfl := Option.some.inj H
    exact absurd hT_ Bool.false_ne_true
   rw [if_neg c57] at H
   have c57b0 : (t693 == 0) = false := beq_eq_false_iff_ne.mpr c57
   have c57b1 : (t693 != 0) = true := bne_iff_ne.mpr c57
   by_cases c115 : t691 = 0
   ·rw [if_pos c115] at H
    have c115b0 : (t691 == 0) = true := beq_iff_eq.mpr c115
    have c115b1 : (t691 != 0) = false := bne_eq_false_iff_eq.mpr c115
    clear c115
    by_cases c116 : t692.toList = ([] : List UInt8)
    ·rw [if_pos c116] at H
     have c116b0 : (t692.toList == ([] : List UInt8)) = true := beq_iff_eq.mpr c116
     try (have c116b9 : t692.toList.isEmpty = true := List.isEmpty_iff.mpr (beq_iff_eq.mp c116b0))
     have c116b1 : (t692.toList != ([] : List UInt8)) = false := bne_eq_false_iff_eq.mpr c116
     clear c116
     replace H := Option.bind_eq_some_iff.mp H
     obtain ⟨t732, A1170, H⟩ := H
     replace H : (some t732) = some r := H
     have A117 := Aside0.mk A1170
     clear A1170
     obtain rfl := Option.some.inj H
     go_wp2_with (first | (go_at_call 9; (with_reducible refine (headgatelaw18_awake.calls kj21  t732 _ A117.out).mono ?_); rintro e w118 ⟨rfl, hb⟩; replace BK685 := Aside0.mk (Zz.bb BK685.out hb); replace BK686 := Aside0.mk (Zz.bb BK686.out hb); replace HB := Aside0.mk (below_step (Zz.i HB.out) hb); (try clear hb)))
     go_ret
     exact ⟨by first | rfl | (simp [errW_none, errW_some] <;> rfl) | (simp [*, errW_none, errW_some] <;> rfl), by repeat (first | (with_reducible first | exact HB.out | apply below_alloc | apply pw_below_drewN | apply below_drew1 | refine below_set ?_ GE685.out | refine below_set ?_ GE686.out) | exact HB.out)⟩
    rw [if_neg c116] at H
    have c116b0 : (t692.toList == ([] : List UInt8)) = false := beq_eq_false_iff_ne.mpr c116
    try (have c116b9 : t692.toList.isEmpty = false := by rw [List.isEmpty_eq_false_iff]; exact beq_eq_false_iff_ne.mp c116b0)
    have c116b1 : (t692.toList != ([] : List UInt8)) = true := bne_iff_ne.mpr c116
    obtain rfl := Option.some.inj H
    exact absurd hT_ Bool.false_ne_true
   rw [if_neg c115] at H
   have c115b0 : (t691 == 0) = false := beq_eq_false_iff_ne.mpr c115
   have c115b1 : (t691 != 0) = true := bne_iff_ne.mpr c115
   by_cases c119 : t690.toList = ([] : List UInt8)
   ·rw [if_pos c119] at H
    have c119b0 : (t690.toList == ([] : List UInt8)) = true := beq_iff_eq.mpr c119
    try (have c119b9 : t690.toList.isEmpty = true := List.isEmpty_iff.mpr (beq_iff_eq.mp c119b0))
    have c119b1 : (t690.toList != ([] : List UInt8)) = false := bne_eq_false_iff_eq.mpr c119
    clear c119
    by_cases c120 : t692.toList = ([] : List UInt8)
    ·rw [if_pos c120] at H
     have c120b0 : (t692.toList == ([] : List UInt8)) = true := beq_iff_eq.mpr c120
     try (have c120b9 : t692.toList.isEmpty = true := List.isEmpty_iff.mpr (beq_iff_eq.mp c120b0))
     have c120b1 : (t692.toList != ([] : List UInt8)) = false := bne_eq_false_iff_eq.mpr c120
     clear c120
     replace H := Option.bind_eq_some_iff.mp H
     obtain ⟨t733, A1210, H⟩ := H
     replace H : (some t733) = some r := H
     have A121 := Aside0.mk A1210
     clear A1210
     obtain rfl := Option.some.inj H
     go_wp2_with (first | (go_at_call 9; (with_reducible refine (headgatelaw18_awake.calls kj21  t733 _ A121.out).mono ?_); rintro e w122 ⟨rfl, hb⟩; replace BK685 := Aside0.mk (Zz.bb BK685.out hb); replace BK686 := Aside0.mk (Zz.bb BK686.out hb); replace HB := Aside0.mk (below_step (Zz.i HB.out) hb); (try clear hb)))
     go_ret
     exact ⟨by first | rfl | (simp [errW_none, errW_some] <;> rfl) | (simp [*, errW_none, errW_some] <;> rfl), by repeat (first | (with_reducible first | exact HB.out | apply below_alloc | apply pw_below_drewN | apply below_drew1 | refine below_set ?_ GE685.out | refine below_set ?_ GE686.out) | exact HB.out)⟩
    rw [if_neg c120] at H
    have c120b0 : (t692.toList == ([] : List UInt8)) = false := beq_eq_false_iff_ne.mpr c120
    try (have c120b9 : t692.toList.isEmpty = false := by rw [List.isEmpty_eq_false_iff]; exact beq_eq_false_iff_ne.mp c120b0)
    have c120b1 : (t692.toList != ([] : List UInt8)) = true := bne_iff_ne.mpr c120
    obtain rfl := Option.some.inj H
    exact absurd hT_ Bool.false_ne_true
   rw [if_neg c119] at H
   have c119b0 : (t690.toList == ([] : List UInt8)) = false := beq_eq_false_iff_ne.mpr c119
   try (have c119b9 : t690.toList.isEmpty = false := by rw [List.isEmpty_eq_false_iff]; exact beq_eq_false_iff_ne.mp c119b0)
   have c119b1 : (t690.toList != ([] : List UInt8)) = true := bne_iff_ne.mpr c119
   obtain rfl := Option.some.inj H
   exact absurd hT_ Bool.false_ne_true

/-- THE ONE PURE STATEMENT of headgatelaw18_WireBack: yours. -/
def headgatelaw18_WireBack.Pure : Prop := ∀ (a0_0 : Int) (a0_1 : Int) (a0_2 : Int) (a0_3 : Int) (a0_4 : Int) (a0_5 : Int) (a0_6 : Int) (a0_7 : Int) (a0_8 : Int) (a0_9 : Int) (a0_10 : Int) (a0_11 : Int) (a0_12 : Bool) (a0_13 : Int) (a0_14 : Int) (a0_15 : Int) (a0_16 : Int) (l0_17 : List (S57)) (a1_0 : Int) (a1_1 : Int) (a1_2 : Int) (a1_3 : Int) (l1_4 : List Int) (l1_5 : List (S59)), ((Lit.int .i64 a0_0).wf = true) → ((Lit.int .i64 a0_1).wf = true) → ((Lit.int .i64 a0_2).wf = true) → ((Lit.int .i64 a0_3).wf = true) → ((Lit.int .i64 a0_4).wf = true) → ((Lit.int .i64 a0_5).wf = true) → ((Lit.int .i64 a0_6).wf = true) → ((Lit.int .i64 a0_7).wf = true) → ((Lit.int .i64 a0_8).wf = true) → ((Lit.int .i64 a0_9).wf = true) → ((Lit.int .i64 a0_10).wf = true) → ((Lit.int .i64 a0_11).wf = true) → ((Lit.int .i64 a0_13).wf = true) → ((Lit.int .i64 a0_14).wf = true) → ((Lit.int .i64 a0_15).wf = true) → ((Lit.int .i64 a0_16).wf = true) → (l0_17.length ≤ 9223372036854775807 ∧ ∀ y_ ∈ l0_17, wf57 y_) → ((Lit.int .i64 a1_0).wf = true) → ((Lit.int .i64 a1_1).wf = true) → ((Lit.int .i64 a1_2).wf = true) → ((Lit.int .i64 a1_3).wf = true) → (l1_4.length ≤ 9223372036854775807 ∧ ∀ y_ ∈ l1_4, (Lit.int .i64 y_).wf = true) → (l1_5.length ≤ 9223372036854775807 ∧ ∀ y_ ∈ l1_5, wf59 y_) → ∃ k, headgatelaw18_WireBack.f k a0_0 a0_1 a0_2 a0_3 a0_4 a0_5 a0_6 a0_7 a0_8 a0_9 a0_10 a0_11 a0_12 a0_13 a0_14 a0_15 a0_16 l0_17 a1_0 a1_1 a1_2 a1_3 l1_4 l1_5 = some true
theorem headgatelaw18_WireBack.walk (P : headgatelaw18_WireBack.Pure) (a0_0 : Int) (a0_1 : Int) (a0_2 : Int) (a0_3 : Int) (a0_4 : Int) (a0_5 : Int) (a0_6 : Int) (a0_7 : Int) (a0_8 : Int) (a0_9 : Int) (a0_10 : Int) (a0_11 : Int) (a0_12 : Bool) (a0_13 : Int) (a0_14 : Int) (a0_15 : Int) (a0_16 : Int) (A0_17 : Option Addr) (c0_17 : Nat) (l0_17 : List (S57)) (a1_0 : Int) (a1_1 : Int) (a1_2 : Int) (a1_3 : Int) (A1_4 : Option Addr) (c1_4 : Nat) (l1_4 : List Int) (A1_5 : Option Addr) (c1_5 : Nat) (l1_5 : List (S59)) (w : World) (hr0_17 : Kd.C k57 w A0_17 l0_17.length l0_17) (hc0_17 : l0_17.length ≤ c0_17) (hr1_4 : Kd.C (Kd.int .i64) w A1_4 l1_4.length l1_4) (hc1_4 : l1_4.length ≤ c1_4) (hr1_5 : Kd.C k59 w A1_5 l1_5.length l1_5) (hc1_5 : l1_5.length ≤ c1_5) (w0_ : (Lit.int .i64 a0_0).wf = true) (w1_ : (Lit.int .i64 a0_1).wf = true) (w2_ : (Lit.int .i64 a0_2).wf = true) (w3_ : (Lit.int .i64 a0_3).wf = true) (w4_ : (Lit.int .i64 a0_4).wf = true) (w5_ : (Lit.int .i64 a0_5).wf = true) (w6_ : (Lit.int .i64 a0_6).wf = true) (w7_ : (Lit.int .i64 a0_7).wf = true) (w8_ : (Lit.int .i64 a0_8).wf = true) (w9_ : (Lit.int .i64 a0_9).wf = true) (w10_ : (Lit.int .i64 a0_10).wf = true) (w11_ : (Lit.int .i64 a0_11).wf = true) (w12_ : (Lit.int .i64 a0_13).wf = true) (w13_ : (Lit.int .i64 a0_14).wf = true) (w14_ : (Lit.int .i64 a0_15).wf = true) (w15_ : (Lit.int .i64 a0_16).wf = true) (w16_ : l0_17.length ≤ 9223372036854775807 ∧ ∀ y_ ∈ l0_17, wf57 y_) (w17_ : (Lit.int .i64 a1_0).wf = true) (w18_ : (Lit.int .i64 a1_1).wf = true) (w19_ : (Lit.int .i64 a1_2).wf = true) (w20_ : (Lit.int .i64 a1_3).wf = true) (w21_ : l1_4.length ≤ 9223372036854775807 ∧ ∀ y_ ∈ l1_4, (Lit.int .i64 y_).wf = true) (w22_ : l1_5.length ≤ 9223372036854775807 ∧ ∀ y_ ∈ l1_5, wf59 y_) :
    Calls Try.prog 5 #[.agg #[.int .i64 a0_0, .int .i64 a0_1, .int .i64 a0_2, .int .i64 a0_3, .int .i64 a0_4, .int .i64 a0_5, .int .i64 a0_6, .int .i64 a0_7, .int .i64 a0_8, .int .i64 a0_9, .int .i64 a0_10, .int .i64 a0_11, .bool a0_12, .int .i64 a0_13, .int .i64 a0_14, .int .i64 a0_15, .int .i64 a0_16, .slice A0_17 l0_17.length c0_17], .agg #[.int .i64 a1_0, .int .i64 a1_1, .int .i64 a1_2, .int .i64 a1_3, .slice A1_4 l1_4.length c1_4, .slice A1_5 l1_5.length c1_5]] w fun e w' => e = .returned (.bool true) ∧ Below w.heap.size w w' := by
 obtain ⟨k, h⟩ := P a0_0 a0_1 a0_2 a0_3 a0_4 a0_5 a0_6 a0_7 a0_8 a0_9 a0_10 a0_11 a0_12 a0_13 a0_14 a0_15 a0_16 l0_17 a1_0 a1_1 a1_2 a1_3 l1_4 l1_5 w0_ w1_ w2_ w3_ w4_ w5_ w6_ w7_ w8_ w9_ w10_ w11_ w12_ w13_ w14_ w15_ w16_ w17_ w18_ w19_ w20_ w21_ w22_
 refine (headgatelaw18_WireBack.calls k a0_0 a0_1 a0_2 a0_3 a0_4 a0_5 a0_6 a0_7 a0_8 a0_9 a0_10 a0_11 a0_12 a0_13 a0_14 a0_15 a0_16 _ _ l0_17 a1_0 a1_1 a1_2 a1_3 _ _ l1_4 _ _ l1_5 true w hr0_17 hc0_17 hr1_4 hc1_4 hr1_5 hc1_5 h rfl).mono ?_
 rintro e w' ⟨rfl, hd⟩
 exact ⟨rfl, hd⟩

end Go.Proofs.Ytikbpjdgihheiaa.P
