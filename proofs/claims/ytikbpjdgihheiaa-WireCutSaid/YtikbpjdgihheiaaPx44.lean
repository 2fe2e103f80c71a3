-- Written by wip/mk.py of this repo: the kit's print program, with contracts of our own among its functions.
import Derived.Test.YtikbpjdgihheiaaPx0
import Derived.Test.YtikbpjdgihheiaaPx3
import Derived.Test.YtikbpjdgihheiaaPx8
import Derived.Test.YtikbpjdgihheiaaPx13
import Derived.Test.YtikbpjdgihheiaaPx14
import Derived.Test.YtikbpjdgihheiaaPx19
import Derived.Test.YtikbpjdgihheiaaPx27
import Derived.Test.YtikbpjdgihheiaaPx36
import Derived.Test.YtikbpjdgihheiaaKs
import Derived.Test.YtikbpjdgihheiaaZz
-- pressed
namespace Go.Proofs.Ytikbpjdgihheiaa.P
open Go.RowKit Go.Proofs.YtikbpjdgihheiaaW.PrintWords Go.Proofs.YtikbpjdgihheiaaW.PrintLast Go.Proofs.YtikbpjdgihheiaaW.PrintMore
attribute [local go_sem] max2_int min2_int max_two min_two max_three min_three max_four min_four   -- for this text's walks alone
attribute [local go_sem ↓] Kp.LDAsk_in Ks.STAsk_in
attribute [local go_sem] Kp.LDAsk_run Ks.STAsk_run
set_option linter.unusedVariables false
set_option linter.unusedSimpArgs false

/-! ### headgatelaw18_WireCut: function 7 -/
mutual
def headgatelaw18_WireCut.j0 : Nat → Int → ByteArray → Bool → Int → Int → Int → Int → Int → Int → Int → Int → Int → Int → Int → Int → Bool → Int → Int → Int → Int → List (S57) → Int → Int → Int → Int → List Int → List (S59) → Option (Bool)
  | 0, _, _, _, _, _, _, _, _, _, _, _, _, _, _, _, _, _, _, _, _, _, _, _, _, _, _, _ => none
  | k + 1, x2, x3, x34, x786000, x786001, x786002, x786003, x786004, x786005, x786006, x786007, x786008, x786009, x786010, x786011, x786012, x786013, x786014, x786015, x786016, x786017, x787000, x787001, x787002, x787003, x787004, x787005 => if x34 = true then ((headgatelaw18_awake.f k).bind fun t789 => (some t789)) else ((wire_EncodeAsk.f k x786000 x786001 x786002 x786003 x786004 x786005 x786006 x786007 x786008 x786009 x786010 x786011 x786012 x786013 x786014 x786015 x786016 x786017).bind fun bt790 => ((wire_EncodeReply.f k x787000 x787001 x787002 x787003 x787004 x787005).bind fun bt792 => (if bt790.2 = 0 then (if x2 ≥ 0 then (headgatelaw18_WireCut.j1 k x2 x3 bt790.1 bt790.2 bt792.1 bt792.2 (decide (x2 < (bt790.1.size : Int)))) else (headgatelaw18_WireCut.j1 k x2 x3 bt790.1 bt790.2 bt792.1 bt792.2 false)) else (headgatelaw18_WireCut.j1 k x2 x3 bt790.1 bt790.2 bt792.1 bt792.2 false))))
def headgatelaw18_WireCut.j1 : Nat → Int → ByteArray → ByteArray → Int → ByteArray → Int → Bool → Option (Bool)
  | 0, _, _, _, _, _, _, _ => none
  | k + 1, x2, x3, x9, x10, x11, x12, x57 => if x57 = true then (if 0 ≤ x2 then (if x2 ≤ (x9.size : Int) then ((wire_DecodeAsk.f k (x9.extract 0 (x2 : Int).toNat)).bind fun bt794 => (if bt794.2.2.2.2.2.2.2.2.2.2.2.2.2.2.2.2.2.2 = 2 then (headgatelaw18_WireCut.j2 k x2 x3 x9 x10 x11 x12) else (some false))) else (none)) else (none)) else (headgatelaw18_WireCut.j2 k x2 x3 x9 x10 x11 x12)
def headgatelaw18_WireCut.j2 : Nat → Int → ByteArray → ByteArray → Int → ByteArray → Int → Option (Bool)
  | 0, _, _, _, _, _, _ => none
  | k + 1, x2, x3, x9, x10, x11, x12 => if x12 = 0 then (if x2 ≥ 0 then (headgatelaw18_WireCut.j3 k x2 x3 x9 x10 x11 x12 (decide (x2 < (x11.size : Int)))) else (headgatelaw18_WireCut.j3 k x2 x3 x9 x10 x11 x12 false)) else (headgatelaw18_WireCut.j3 k x2 x3 x9 x10 x11 x12 false)
def headgatelaw18_WireCut.j3 : Nat → Int → ByteArray → ByteArray → Int → ByteArray → Int → Bool → Option (Bool)
  | 0, _, _, _, _, _, _, _ => none
  | k + 1, x2, x3, x9, x10, x11, x12, x78 => if x78 = true then (if 0 ≤ x2 then (if x2 ≤ (x11.size : Int) then ((wire_DecodeReply.f k (x11.extract 0 (x2 : Int).toNat)).bind fun bt816 => (if bt816.2.2.2.2.2.2 = 2 then (headgatelaw18_WireCut.j4 k x3 x9 x10 x11 x12) else (some false))) else (none)) else (none)) else (headgatelaw18_WireCut.j4 k x3 x9 x10 x11 x12)
def headgatelaw18_WireCut.j4 : Nat → ByteArray → ByteArray → Int → ByteArray → Int → Option (Bool)
  | 0, _, _, _, _, _ => none
  | k + 1, x3, x9, x10, x11, x12 => if x3.toList = ([] : List UInt8) then ((headgatelaw18_awake.f k).bind fun t828 => (some t828)) else (if x9.size + x3.size ≤ 9223372036854775807 then ((wire_DecodeAsk.f k (x9 ++ x3)).bind fun bt829 => (if x11.size + x3.size ≤ 9223372036854775807 then ((wire_DecodeReply.f k (x11 ++ x3)).bind fun bt851 => (if x10 = 0 then (if bt829.2.2.2.2.2.2.2.2.2.2.2.2.2.2.2.2.2.2 = 2 then (if x12 = 0 then (if bt851.2.2.2.2.2.2 = 2 then ((headgatelaw18_awake.f k).bind fun t863 => (some t863)) else (some false)) else ((headgatelaw18_awake.f k).bind fun t864 => (some t864))) else (some false)) else (if x12 = 0 then (if bt851.2.2.2.2.2.2 = 2 then ((headgatelaw18_awake.f k).bind fun t865 => (some t865)) else (some false)) else ((headgatelaw18_awake.f k).bind fun t866 => (some t866))))) else (none))) else (none))
end
def headgatelaw18_WireCut.f (k : Nat) (a0_0 : Int) (a0_1 : Int) (a0_2 : Int) (a0_3 : Int) (a0_4 : Int) (a0_5 : Int) (a0_6 : Int) (a0_7 : Int) (a0_8 : Int) (a0_9 : Int) (a0_10 : Int) (a0_11 : Int) (a0_12 : Bool) (a0_13 : Int) (a0_14 : Int) (a0_15 : Int) (a0_16 : Int) (l0_17 : List (S57)) (a1_0 : Int) (a1_1 : Int) (a1_2 : Int) (a1_3 : Int) (l1_4 : List Int) (l1_5 : List (S59)) (a2 : Int) (a3 : ByteArray) : Option (Bool) := (headgatelaw06_Light.f k a0_13 a0_14 a0_15 a0_16 l0_17).bind fun t787 => (if t787 = true then ((headgatelaw18_light.f k a1_0 a1_1 a1_2 a1_3 l1_4 l1_5).bind fun t788 => (if t788 = true then (headgatelaw18_WireCut.j0 k a2 a3 (decide ((a3.size : Int) > 1000)) a0_0 a0_1 a0_2 a0_3 a0_4 a0_5 a0_6 a0_7 a0_8 a0_9 a0_10 a0_11 a0_12 a0_13 a0_14 a0_15 a0_16 l0_17 a1_0 a1_1 a1_2 a1_3 l1_4 l1_5) else (headgatelaw18_WireCut.j0 k a2 a3 true a0_0 a0_1 a0_2 a0_3 a0_4 a0_5 a0_6 a0_7 a0_8 a0_9 a0_10 a0_11 a0_12 a0_13 a0_14 a0_15 a0_16 l0_17 a1_0 a1_1 a1_2 a1_3 l1_4 l1_5))) else (headgatelaw18_WireCut.j0 k a2 a3 true a0_0 a0_1 a0_2 a0_3 a0_4 a0_5 a0_6 a0_7 a0_8 a0_9 a0_10 a0_11 a0_12 a0_13 a0_14 a0_15 a0_16 l0_17 a1_0 a1_1 a1_2 a1_3 l1_4 l1_5))
theorem headgatelaw18_WireCut.mono_l : ∀ k, (∀ y0 y1 y2 y3 y4 y5 y6 y7 y8 y9 y10 y11 y12 y13 y14 y15 y16 y17 y18 y19 y20 y21 y22 y23 y24 y25 y26, LeO (headgatelaw18_WireCut.j0 k y0 y1 y2 y3 y4 y5 y6 y7 y8 y9 y10 y11 y12 y13 y14 y15 y16 y17 y18 y19 y20 y21 y22 y23 y24 y25 y26) (headgatelaw18_WireCut.j0 (k + 1) y0 y1 y2 y3 y4 y5 y6 y7 y8 y9 y10 y11 y12 y13 y14 y15 y16 y17 y18 y19 y20 y21 y22 y23 y24 y25 y26)) ∧ (∀ y0 y1 y2 y3 y4 y5 y6, LeO (headgatelaw18_WireCut.j1 k y0 y1 y2 y3 y4 y5 y6) (headgatelaw18_WireCut.j1 (k + 1) y0 y1 y2 y3 y4 y5 y6)) ∧ (∀ y0 y1 y2 y3 y4 y5, LeO (headgatelaw18_WireCut.j2 k y0 y1 y2 y3 y4 y5) (headgatelaw18_WireCut.j2 (k + 1) y0 y1 y2 y3 y4 y5)) ∧ (∀ y0 y1 y2 y3 y4 y5 y6, LeO (headgatelaw18_WireCut.j3 k y0 y1 y2 y3 y4 y5 y6) (headgatelaw18_WireCut.j3 (k + 1) y0 y1 y2 y3 y4 y5 y6)) ∧ (∀ y0 y1 y2 y3 y4, LeO (headgatelaw18_WireCut.j4 k y0 y1 y2 y3 y4) (headgatelaw18_WireCut.j4 (k + 1) y0 y1 y2 y3 y4))
  | 0 => ⟨fun _ _ _ _ _ _ _ _ _ _ _ _ _ _ _ _ _ _ _ _ _ _ _ _ _ _ _ r h => by simp [headgatelaw18_WireCut.j0] at h, fun _ _ _ _ _ _ _ r h => by simp [headgatelaw18_WireCut.j1] at h, fun _ _ _ _ _ _ r h => by simp [headgatelaw18_WireCut.j2] at h, fun _ _ _ _ _ _ _ r h => by simp [headgatelaw18_WireCut.j3] at h, fun _ _ _ _ _ r h => by simp [headgatelaw18_WireCut.j4] at h⟩
  | k + 1 => by
    obtain ⟨ih0, ih1, ih2, ih3, ih4⟩ := headgatelaw18_WireCut.mono_l k
    refine ⟨?_, ?_, ?_, ?_, ?_⟩
    · intro y0 y1 y2 y3 y4 y5 y6 y7 y8 y9 y10 y11 y12 y13 y14 y15 y16 y17 y18 y19 y20 y21 y22 y23 y24 y25 y26
      unfold headgatelaw18_WireCut.j0
      repeat' first
      | (with_reducible exact ih0 _ _ _ _ _ _ _ _ _ _ _ _ _ _ _ _ _ _ _ _ _ _ _ _ _ _ _)
      | (with_reducible exact ih1 _ _ _ _ _ _ _)
      | (with_reducible exact ih2 _ _ _ _ _ _)
      | (with_reducible exact ih3 _ _ _ _ _ _ _)
      | (with_reducible exact ih4 _ _ _ _ _)
      | (with_reducible exact headgatelaw06_Light.mono _ _ _ _ _ _)
      | (with_reducible exact headgatelaw18_awake.mono _)
      | (with_reducible exact headgatelaw18_light.mono _ _ _ _ _ _ _)
      | (with_reducible exact wire_DecodeAsk.mono _ _)
      | (with_reducible exact wire_DecodeReply.mono _ _)
      | (with_reducible exact wire_EncodeAsk.mono _ _ _ _ _ _ _ _ _ _ _ _ _ _ _ _ _ _ _)
      | (with_reducible exact wire_EncodeReply.mono _ _ _ _ _ _ _)
      | (with_reducible exact LeO.refl _)
      | (with_reducible exact LeO.none _)
      | (with_reducible refine LeO.ite ?_ ?_)
      | (with_reducible refine LeO.bind ?_ (fun _ => ?_))
      | exact ih0 _ _ _ _ _ _ _ _ _ _ _ _ _ _ _ _ _ _ _ _ _ _ _ _ _ _ _
      | exact ih1 _ _ _ _ _ _ _
      | exact ih2 _ _ _ _ _ _
      | exact ih3 _ _ _ _ _ _ _
      | exact ih4 _ _ _ _ _
      | exact headgatelaw06_Light.mono _ _ _ _ _ _
      | exact headgatelaw18_awake.mono _
      | exact headgatelaw18_light.mono _ _ _ _ _ _ _
      | exact wire_DecodeAsk.mono _ _
      | exact wire_DecodeReply.mono _ _
      | exact wire_EncodeAsk.mono _ _ _ _ _ _ _ _ _ _ _ _ _ _ _ _ _ _ _
      | exact wire_EncodeReply.mono _ _ _ _ _ _ _
      | exact LeO.none _
      | refine LeO.ite ?_ ?_
      | refine LeO.bind ?_ (fun _ => ?_)
    · intro y0 y1 y2 y3 y4 y5 y6
      unfold headgatelaw18_WireCut.j1
      repeat' first
      | (with_reducible exact ih0 _ _ _ _ _ _ _ _ _ _ _ _ _ _ _ _ _ _ _ _ _ _ _ _ _ _ _)
      | (with_reducible exact ih1 _ _ _ _ _ _ _)
      | (with_reducible exact ih2 _ _ _ _ _ _)
      | (with_reducible exact ih3 _ _ _ _ _ _ _)
      | (with_reducible exact ih4 _ _ _ _ _)
      | (with_reducible exact headgatelaw06_Light.mono _ _ _ _ _ _)
      | (with_reducible exact headgatelaw18_awake.mono _)
      | (with_reducible exact headgatelaw18_light.mono _ _ _ _ _ _ _)
      | (with_reducible exact wire_DecodeAsk.mono _ _)
      | (with_reducible exact wire_DecodeReply.mono _ _)
      | (with_reducible exact wire_EncodeAsk.mono _ _ _ _ _ _ _ _ _ _ _ _ _ _ _ _ _ _ _)
      | (with_reducible exact wire_EncodeReply.mono _ _ _ _ _ _ _)
      | (with_reducible exact LeO.refl _)
      | (with_reducible exact LeO.none _)
      | (with_reducible refine LeO.ite ?_ ?_)
      | (with_reducible refine LeO.bind ?_ (fun _ => ?_))
      | exact ih0 _ _ _ _ _ _ _ _ _ _ _ _ _ _ _ _ _ _ _ _ _ _ _ _ _ _ _
      | exact ih1 _ _ _ _ _ _ _
      | exact ih2 _ _ _ _ _ _
      | exact ih3 _ _ _ _ _ _ _
      | exact ih4 _ _ _ _ _
      | exact headgatelaw06_Light.mono _ _ _ _ _ _
      | exact headgatelaw18_awake.mono _
      | exact headgatelaw18_light.mono _ _ _ _ _ _ _
      | exact wire_DecodeAsk.mono _ _
      | exact wire_DecodeReply.mono _ _
      | exact wire_EncodeAsk.mono _ _ _ _ _ _ _ _ _ _ _ _ _ _ _ _ _ _ _
      | exact wire_EncodeReply.mono _ _ _ _ _ _ _
      | exact LeO.none _
      | refine LeO.ite ?_ ?_
      | refine LeO.bind ?_ (fun _ => ?_)
    · intro y0 y1 y2 y3 y4 y5
      unfold headgatelaw18_WireCut.j2
      repeat' first
      | (with_reducible exact ih0 _ _ _ _ _ _ _ _ _ _ _ _ _ _ _ _ _ _ _ _ _ _ _ _ _ _ _)
      | (with_reducible exact ih1 _ _ _ _ _ _ _)
      | (with_reducible exact ih2 _ _ _ _ _ _)
      | (with_reducible exact ih3 _ _ _ _ _ _ _)
      | (with_reducible exact ih4 _ _ _ _ _)
      | (with_reducible exact headgatelaw06_Light.mono _ _ _ _ _ _)
      | (with_reducible exact headgatelaw18_awake.mono _)
      | (with_reducible exact headgatelaw18_light.mono _ _ _ _ _ _ _)
      | (with_reducible exact wire_DecodeAsk.mono _ _)
      | (with_reducible exact wire_DecodeReply.mono _ _)
      | (with_reducible exact wire_EncodeAsk.mono _ _ _ _ _ _ _ _ _ _ _ _ _ _ _ _ _ _ _)
      | (with_reducible exact wire_EncodeReply.mono _ _ _ _ _ _ _)
      | (with_reducible exact LeO.refl _)
      | (with_reducible exact LeO.none _)
      | (with_reducible refine LeO.ite ?_ ?_)
      | (with_reducible refine LeO.bind ?_ (fun _ => ?_))
      | exact ih0 _ _ _ _ _ _ _ _ _ _ _ _ _ _ _ _ _ _ _ _ _ _ _ _ _ _ _
      | exact ih1 _ _ _ _ _ _ _
      | exact ih2 _ _ _ _ _ _
      | exact ih3 _ _ _ _ _ _ _
      | exact ih4 _ _ _ _ _
      | exact headgatelaw06_Light.mono _ _ _ _ _ _
      | exact headgatelaw18_awake.mono _
      | exact headgatelaw18_light.mono _ _ _ _ _ _ _
      | exact wire_DecodeAsk.mono _ _
      | exact wire_DecodeReply.mono _ _
      | exact wire_EncodeAsk.mono _ _ _ _ _ _ _ _ _ _ _ _ _ _ _ _ _ _ _
      | exact wire_EncodeReply.mono _ _ _ _ _ _ _
      | exact LeO.none _
      | refine LeO.ite ?_ ?_
      | refine LeO.bind ?_ (fun _ => ?_)
    · intro y0 y1 y2 y3 y4 y5 y6
      unfold headgatelaw18_WireCut.j3
      repeat' first
      | (with_reducible exact ih0 _ _ _ _ _ _ _ _ _ _ _ _ _ _ _ _ _ _ _ _ _ _ _ _ _ _ _)
      | (with_reducible exact ih1 _ _ _ _ _ _ _)
      | (with_reducible exact ih2 _ _ _ _ _ _)
      | (with_reducible exact ih3 _ _ _ _ _ _ _)
      | (with_reducible exact ih4 _ _ _ _ _)
      | (with_reducible exact headgatelaw06_Light.mono _ _ _ _ _ _)
      | (with_reducible exact headgatelaw18_awake.mono _)
      | (with_reducible exact headgatelaw18_light.mono _ _ _ _ _ _ _)
      | (with_reducible exact wire_DecodeAsk.mono _ _)
      | (with_reducible exact wire_DecodeReply.mono _ _)
      | (with_reducible exact wire_EncodeAsk.mono _ _ _ _ _ _ _ _ _ _ _ _ _ _ _ _ _ _ _)
      | (with_reducible exact wire_EncodeReply.mono _ _ _ _ _ _ _)
      | (with_reducible exact LeO.refl _)
      | (with_reducible exact LeO.none _)
      | (with_reducible refine LeO.ite ?_ ?_)
      | (with_reducible refine LeO.bind ?_ (fun _ => ?_))
      | exact ih0 _ _ _ _ _ _ _ _ _ _ _ _ _ _ _ _ _ _ _ _ _ _ _ _ _ _ _
      | exact ih1 _ _ _ _ _ _ _
      | exact ih2 _ _ _ _ _ _
      | exact ih3 _ _ _ _ _ _ _
      | exact ih4 _ _ _ _ _
      | exact headgatelaw06_Light.mono _ _ _ _ _ _
      | exact headgatelaw18_awake.mono _
      | exact headgatelaw18_light.mono _ _ _ _ _ _ _
      | exact wire_DecodeAsk.mono _ _
      | exact wire_DecodeReply.mono _ _
      | exact wire_EncodeAsk.mono _ _ _ _ _ _ _ _ _ _ _ _ _ _ _ _ _ _ _
      | exact wire_EncodeReply.mono _ _ _ _ _ _ _
      | exact LeO.none _
      | refine LeO.ite ?_ ?_
      | refine LeO.bind ?_ (fun _ => ?_)
    · intro y0 y1 y2 y3 y4
      unfold headgatelaw18_WireCut.j4
      repeat' first
      | (with_reducible exact ih0 _ _ _ _ _ _ _ _ _ _ _ _ _ _ _ _ _ _ _ _ _ _ _ _ _ _ _)
      | (with_reducible exact ih1 _ _ _ _ _ _ _)
      | (with_reducible exact ih2 _ _ _ _ _ _)
      | (with_reducible exact ih3 _ _ _ _ _ _ _)
      | (with_reducible exact ih4 _ _ _ _ _)
      | (with_reducible exact headgatelaw06_Light.mono _ _ _ _ _ _)
      | (with_reducible exact headgatelaw18_awake.mono _)
      | (with_reducible exact headgatelaw18_light.mono _ _ _ _ _ _ _)
      | (with_reducible exact wire_DecodeAsk.mono _ _)
      | (with_reducible exact wire_DecodeReply.mono _ _)
      | (with_reducible exact wire_EncodeAsk.mono _ _ _ _ _ _ _ _ _ _ _ _ _ _ _ _ _ _ _)
      | (with_reducible exact wire_EncodeReply.mono _ _ _ _ _ _ _)
      | (with_reducible exact LeO.refl _)
      | (with_reducible exact LeO.none _)
      | (with_reducible refine LeO.ite ?_ ?_)
      | (with_reducible refine LeO.bind ?_ (fun _ => ?_))
      | exact ih0 _ _ _ _ _ _ _ _ _ _ _ _ _ _ _ _ _ _ _ _ _ _ _ _ _ _ _
      | exact ih1 _ _ _ _ _ _ _
      | exact ih2 _ _ _ _ _ _
      | exact ih3 _ _ _ _ _ _ _
      | exact ih4 _ _ _ _ _
      | exact headgatelaw06_Light.mono _ _ _ _ _ _
      | exact headgatelaw18_awake.mono _
      | exact headgatelaw18_light.mono _ _ _ _ _ _ _
      | exact wire_DecodeAsk.mono _ _
      | exact wire_DecodeReply.mono _ _
      | exact wire_EncodeAsk.mono _ _ _ _ _ _ _ _ _ _ _ _ _ _ _ _ _ _ _
      | exact wire_EncodeReply.mono _ _ _ _ _ _ _
      | exact LeO.none _
      | refine LeO.ite ?_ ?_
      | refine LeO.bind ?_ (fun _ => ?_)
theorem headgatelaw18_WireCut.mono : ∀ a0 a1 a2 a3 a4 a5 a6 a7 a8 a9 a10 a11 a12 a13 a14 a15 a16 a17 a18 a19 a20 a21 a22 a23 a24 a25 k, LeO (headgatelaw18_WireCut.f k a0 a1 a2 a3 a4 a5 a6 a7 a8 a9 a10 a11 a12 a13 a14 a15 a16 a17 a18 a19 a20 a21 a22 a23 a24 a25) (headgatelaw18_WireCut.f (k + 1) a0 a1 a2 a3 a4 a5 a6 a7 a8 a9 a10 a11 a12 a13 a14 a15 a16 a17 a18 a19 a20 a21 a22 a23 a24 a25) := by
  intro a0 a1 a2 a3 a4 a5 a6 a7 a8 a9 a10 a11 a12 a13 a14 a15 a16 a17 a18 a19 a20 a21 a22 a23 a24 a25 k
  obtain ⟨ih0, ih1, ih2, ih3, ih4⟩ := headgatelaw18_WireCut.mono_l k
  unfold headgatelaw18_WireCut.f
  repeat' first
      | (with_reducible exact ih0 _ _ _ _ _ _ _ _ _ _ _ _ _ _ _ _ _ _ _ _ _ _ _ _ _ _ _)
      | (with_reducible exact ih1 _ _ _ _ _ _ _)
      | (with_reducible exact ih2 _ _ _ _ _ _)
      | (with_reducible exact ih3 _ _ _ _ _ _ _)
      | (with_reducible exact ih4 _ _ _ _ _)
      | (with_reducible exact headgatelaw06_Light.mono _ _ _ _ _ _)
      | (with_reducible exact headgatelaw18_awake.mono _)
      | (with_reducible exact headgatelaw18_light.mono _ _ _ _ _ _ _)
      | (with_reducible exact wire_DecodeAsk.mono _ _)
      | (with_reducible exact wire_DecodeReply.mono _ _)
      | (with_reducible exact wire_EncodeAsk.mono _ _ _ _ _ _ _ _ _ _ _ _ _ _ _ _ _ _ _)
      | (with_reducible exact wire_EncodeReply.mono _ _ _ _ _ _ _)
      | (with_reducible exact LeO.refl _)
      | (with_reducible exact LeO.none _)
      | (with_reducible refine LeO.ite ?_ ?_)
      | (with_reducible refine LeO.bind ?_ (fun _ => ?_))
      | exact ih0 _ _ _ _ _ _ _ _ _ _ _ _ _ _ _ _ _ _ _ _ _ _ _ _ _ _ _
      | exact ih1 _ _ _ _ _ _ _
      | exact ih2 _ _ _ _ _ _
      | exact ih3 _ _ _ _ _ _ _
      | exact ih4 _ _ _ _ _
      | exact headgatelaw06_Light.mono _ _ _ _ _ _
      | exact headgatelaw18_awake.mono _
      | exact headgatelaw18_light.mono _ _ _ _ _ _ _
      | exact wire_DecodeAsk.mono _ _
      | exact wire_DecodeReply.mono _ _
      | exact wire_EncodeAsk.mono _ _ _ _ _ _ _ _ _ _ _ _ _ _ _ _ _ _ _
      | exact wire_EncodeReply.mono _ _ _ _ _ _ _
      | exact LeO.none _
      | refine LeO.ite ?_ ?_
      | refine LeO.bind ?_ (fun _ => ?_)
set_option maxHeartbeats 8000000 in
set_option maxRecDepth 100000 in
theorem headgatelaw18_WireCut.calls (k : Nat) (a0_0 : Int) (a0_1 : Int) (a0_2 : Int) (a0_3 : Int) (a0_4 : Int) (a0_5 : Int) (a0_6 : Int) (a0_7 : Int) (a0_8 : Int) (a0_9 : Int) (a0_10 : Int) (a0_11 : Int) (a0_12 : Bool) (a0_13 : Int) (a0_14 : Int) (a0_15 : Int) (a0_16 : Int) (A0_17 : Option Addr) (c0_17 : Nat) (l0_17 : List (S57)) (a1_0 : Int) (a1_1 : Int) (a1_2 : Int) (a1_3 : Int) (A1_4 : Option Addr) (c1_4 : Nat) (l1_4 : List Int) (A1_5 : Option Addr) (c1_5 : Nat) (l1_5 : List (S59)) (a2 : Int) (a3 : ByteArray) (r : Bool) (w : World) (hr0_17 : Kd.C k57 w A0_17 l0_17.length l0_17) (hc0_17 : l0_17.length ≤ c0_17) (hr1_4 : Kd.C (Kd.int .i64) w A1_4 l1_4.length l1_4) (hc1_4 : l1_4.length ≤ c1_4) (hr1_5 : Kd.C k59 w A1_5 l1_5.length l1_5) (hc1_5 : l1_5.length ≤ c1_5) (h : headgatelaw18_WireCut.f k a0_0 a0_1 a0_2 a0_3 a0_4 a0_5 a0_6 a0_7 a0_8 a0_9 a0_10 a0_11 a0_12 a0_13 a0_14 a0_15 a0_16 l0_17 a1_0 a1_1 a1_2 a1_3 l1_4 l1_5 a2 a3 = some r) :
    Calls Try.prog 7 #[.agg #[.int .i64 a0_0, .int .i64 a0_1, .int .i64 a0_2, .int .i64 a0_3, .int .i64 a0_4, .int .i64 a0_5, .int .i64 a0_6, .int .i64 a0_7, .int .i64 a0_8, .int .i64 a0_9, .int .i64 a0_10, .int .i64 a0_11, .bool a0_12, .int .i64 a0_13, .int .i64 a0_14, .int .i64 a0_15, .int .i64 a0_16, .slice A0_17 l0_17.length c0_17], .agg #[.int .i64 a1_0, .int .i64 a1_1, .int .i64 a1_2, .int .i64 a1_3, .slice A1_4 l1_4.length c1_4, .slice A1_5 l1_5.length c1_5], .int .i64 a2, .string a3] w fun e w' => e = .returned (.bool r) ∧ Below w.heap.size w w' := by
 have hu43 := Try.underlying43
 have hu26 := Try.underlying26
 have hu41 := Try.underlying41
 have HR0_17 := Aside0.mk hr0_17
 have HC0_17 := Aside0.mk hc0_17
 clear hr0_17 hc0_17
 have HR1_4 := Aside0.mk hr1_4
 have HC1_4 := Aside0.mk hc1_4
 clear hr1_4 hc1_4
 have HR1_5 := Aside0.mk hr1_5
 have HC1_5 := Aside0.mk hc1_5
 clear hr1_5 hc1_5
 have HB := Aside0.mk (Below.refl w.heap.size w)
 have H : ((headgatelaw06_Light.f k a0_13 a0_14 a0_15 a0_16 l0_17).bind fun t787 => (if t787 = true then ((headgatelaw18_light.f k a1_0 a1_1 a1_2 a1_3 l1_4 l1_5).bind fun t788 => (if t788 = true then (headgatelaw18_WireCut.j0 k a2 a3 (decide ((a3.size : Int) > 1000)) a0_0 a0_1 a0_2 a0_3 a0_4 a0_5 a0_6 a0_7 a0_8 a0_9 a0_10 a0_11 a0_12 a0_13 a0_14 a0_15 a0_16 l0_17 a1_0 a1_1 a1_2 a1_3 l1_4 l1_5) else (headgatelaw18_WireCut.j0 k a2 a3 true a0_0 a0_1 a0_2 a0_3 a0_4 a0_5 a0_6 a0_7 a0_8 a0_9 a0_10 a0_11 a0_12 a0_13 a0_14 a0_15 a0_16 l0_17 a1_0 a1_1 a1_2 a1_3 l1_4 l1_5))) else (headgatelaw18_WireCut.j0 k a2 a3 true a0_0 a0_1 a0_2 a0_3 a0_4 a0_5 a0_6 a0_7 a0_8 a0_9 a0_10 a0_11 a0_12 a0_13 a0_14 a0_15 a0_16 l0_17 a1_0 a1_1 a1_2 a1_3 l1_4 l1_5))) = some r := h
 clear h
 have HC5 := Aside0.mk H
 clear H
 go_enter Try.func7, Try.ntmps7
 go_upto_region 1 with (first | ((with_reducible refine gate_dst (N := 4) rfl ?_); (try (refine gate_guard (by rfl) ?_; dsimp only)); refine box_event ?hg (N := 4) ?hd (cs := #[.int .i64 a0_0, .int .i64 a0_1, .int .i64 a0_2, .int .i64 a0_3, .int .i64 a0_4, .int .i64 a0_5, .int .i64 a0_6, .int .i64 a0_7, .int .i64 a0_8, .int .i64 a0_9, .int .i64 a0_10, .int .i64 a0_11, .bool a0_12, .int .i64 a0_13, .int .i64 a0_14, .int .i64 a0_15, .int .i64 a0_16, .slice A0_17 l0_17.length c0_17]) (t := 43) ?hr ?_; (case hd => rfl); (case hg => rfl); (case hr => first | (go_simp; done) | (go_simp; rfl)); intro gb785 hg w6 hbox hb; have BK785 := Aside0.mk (hbox); have GW785 := Aside0.mk (Zz.ge hg HB.out); have GE785 := Aside0.mk (Zz.ge hg HB.out); replace HB := Aside0.mk (below_step (Zz.i HB.out) hb); clear hb hbox hg) | ((with_reducible refine gate_dst (N := 5) rfl ?_); (try (refine gate_guard (by rfl) ?_; dsimp only)); refine box_event ?hg (N := 5) ?hd (cs := #[.int .i64 a1_0, .int .i64 a1_1, .int .i64 a1_2, .int .i64 a1_3, .slice A1_4 l1_4.length c1_4, .slice A1_5 l1_5.length c1_5]) (t := 26) ?hr ?_; (case hd => rfl); (case hg => rfl); (case hr => first | (go_simp; done) | (go_simp; rfl)); intro gb786 hg w7 hbox hb; have BK786 := Aside0.mk (hbox); have GW786 := Aside0.mk (Zz.ge hg HB.out); have GE786 := Aside0.mk (Zz.ge hg HB.out); replace HB := Aside0.mk (below_step (Zz.i HB.out) hb); have NB785_786 := Aside0.mk (Zz.nl hg BK785.out); have NB786_785 := Aside0.mk (Zz.ng hg BK785.out); replace BK785 := Aside0.mk (Zz.bb BK785.out hb); clear hb hbox hg))
 (try simp only [Act.put, List.setIfInBounds_toArray, List.set_cons_zero, List.set_cons_succ])
 go_cut [34] (fun v34 wc => ∃ (kq : Nat) (x34_4 : Bool), v34 = .bool x34_4 ∧ Aside0 (headgatelaw18_WireCut.j0 kq a2 a3 x34_4 a0_0 a0_1 a0_2 a0_3 a0_4 a0_5 a0_6 a0_7 a0_8 a0_9 a0_10 a0_11 a0_12 a0_13 a0_14 a0_15 a0_16 l0_17 a1_0 a1_1 a1_2 a1_3 l1_4 l1_5 = some r) ∧ Aside0 (kq ≤ k) ∧ Aside0 (wc.heap[gb785]? = some (.cells #[.int .i64 a0_0, .int .i64 a0_1, .int .i64 a0_2, .int .i64 a0_3, .int .i64 a0_4, .int .i64 a0_5, .int .i64 a0_6, .int .i64 a0_7, .int .i64 a0_8, .int .i64 a0_9, .int .i64 a0_10, .int .i64 a0_11, .bool a0_12, .int .i64 a0_13, .int .i64 a0_14, .int .i64 a0_15, .int .i64 a0_16, (.slice A0_17 l0_17.length c0_17)] 43 (0, 0))) ∧ Aside0 (wc.heap[gb786]? = some (.cells #[.int .i64 a1_0, .int .i64 a1_1, .int .i64 a1_2, .int .i64 a1_3, (.slice A1_4 l1_4.length c1_4), (.slice A1_5 l1_5.length c1_5)] 26 (0, 0))) ∧ Aside0 (Below w.heap.size w wc))
 case first =>
  have H := HC5.out
  clear HC5
  replace H := Option.bind_eq_some_iff.mp H
  obtain ⟨t787, A80, H⟩ := H
  replace H : (if t787 = true then ((headgatelaw18_light.f k a1_0 a1_1 a1_2 a1_3 l1_4 l1_5).bind fun t788 => (if t788 = true then (headgatelaw18_WireCut.j0 k a2 a3 (decide ((a3.size : Int) > 1000)) a0_0 a0_1 a0_2 a0_3 a0_4 a0_5 a0_6 a0_7 a0_8 a0_9 a0_10 a0_11 a0_12 a0_13 a0_14 a0_15 a0_16 l0_17 a1_0 a1_1 a1_2 a1_3 l1_4 l1_5) else (headgatelaw18_WireCut.j0 k a2 a3 true a0_0 a0_1 a0_2 a0_3 a0_4 a0_5 a0_6 a0_7 a0_8 a0_9 a0_10 a0_11 a0_12 a0_13 a0_14 a0_15 a0_16 l0_17 a1_0 a1_1 a1_2 a1_3 l1_4 l1_5))) else (headgatelaw18_WireCut.j0 k a2 a3 true a0_0 a0_1 a0_2 a0_3 a0_4 a0_5 a0_6 a0_7 a0_8 a0_9 a0_10 a0_11 a0_12 a0_13 a0_14 a0_15 a0_16 l0_17 a1_0 a1_1 a1_2 a1_3 l1_4 l1_5)) = some r := H
  have A8 := Aside0.mk A80
  clear A80
  by_cases c9 : t787 = true
  ·subst c9
   have H1 : ((headgatelaw18_light.f k a1_0 a1_1 a1_2 a1_3 l1_4 l1_5).bind fun t788 => (if t788 = true then (headgatelaw18_WireCut.j0 k a2 a3 (decide ((a3.size : Int) > 1000)) a0_0 a0_1 a0_2 a0_3 a0_4 a0_5 a0_6 a0_7 a0_8 a0_9 a0_10 a0_11 a0_12 a0_13 a0_14 a0_15 a0_16 l0_17 a1_0 a1_1 a1_2 a1_3 l1_4 l1_5) else (headgatelaw18_WireCut.j0 k a2 a3 true a0_0 a0_1 a0_2 a0_3 a0_4 a0_5 a0_6 a0_7 a0_8 a0_9 a0_10 a0_11 a0_12 a0_13 a0_14 a0_15 a0_16 l0_17 a1_0 a1_1 a1_2 a1_3 l1_4 l1_5))) = some r := by rw [if_pos rfl] at H; exact H
   clear H
   have H := H1
   clear H1
   replace H := Option.bind_eq_some_iff.mp H
   obtain ⟨t788, A100, H⟩ := H
   replace H : (if t788 = true then (headgatelaw18_WireCut.j0 k a2 a3 (decide ((a3.size : Int) > 1000)) a0_0 a0_1 a0_2 a0_3 a0_4 a0_5 a0_6 a0_7 a0_8 a0_9 a0_10 a0_11 a0_12 a0_13 a0_14 a0_15 a0_16 l0_17 a1_0 a1_1 a1_2 a1_3 l1_4 l1_5) else (headgatelaw18_WireCut.j0 k a2 a3 true a0_0 a0_1 a0_2 a0_3 a0_4 a0_5 a0_6 a0_7 a0_8 a0_9 a0_10 a0_11 a0_12 a0_13 a0_14 a0_15 a0_16 l0_17 a1_0 a1_1 a1_2 a1_3 l1_4 l1_5)) = some r := H
   have A10 := Aside0.mk A100
   clear A100
   by_cases c11 : t788 = true
   ·subst c11
    have H1 : (headgatelaw18_WireCut.j0 k a2 a3 (decide ((a3.size : Int) > 1000)) a0_0 a0_1 a0_2 a0_3 a0_4 a0_5 a0_6 a0_7 a0_8 a0_9 a0_10 a0_11 a0_12 a0_13 a0_14 a0_15 a0_16 l0_17 a1_0 a1_1 a1_2 a1_3 l1_4 l1_5) = some r := by rw [if_pos rfl] at H; exact H
    clear H
    have H := H1
    clear H1
    have H' := Aside0.mk H
    clear H
    have hnb12 := NB785_786.out
    have hnc12 := NB786_785.out
    have hcz13 := Zz.c18 BK785.out
    have hfz13 := blk_frozen BK785.out
    go_wp2_with (first | ((with_reducible refine gate_callee (f := 15) rfl ?_); refine goesL_ (some 23) rfl rfl Try.func15 (by kernel_rfl) rfl #[.agg #[.int .i64 a0_13, .int .i64 a0_14, .int .i64 a0_15, .int .i64 a0_16, .slice A0_17 l0_17.length c0_17]] rfl Zz.g ?_; (with_reducible refine (headgatelaw06_Light.calls k a0_13 a0_14 a0_15 a0_16 _ _ l0_17 true _ ?side1 ?side2 A8.out).mono ?_); (case side1 => exact Zz.k (Kd.C_below HR0_17.out HB.out)); (case side2 => exact HC0_17.out); rintro e w14 ⟨rfl, hb⟩; refine ⟨_, rfl, ?_⟩; replace BK785 := Aside0.mk (Zz.bb BK785.out hb); replace BK786 := Aside0.mk (Zz.bb BK786.out hb); replace HB := Aside0.mk (below_step (Zz.i HB.out) hb); (try clear hb); have hcz15 := Zz.c6 BK786.out; have hfz15 := blk_frozen BK786.out) | (go_at_call 8; (with_reducible refine (headgatelaw18_light.calls k a1_0 a1_1 a1_2 a1_3 _ _ l1_4 _ _ l1_5 true _ ?side1 ?side2 ?side3 ?side4 A10.out).mono ?_); (case side1 => exact Zz.k (Kd.C_below HR1_4.out HB.out)); (case side2 => exact HC1_4.out); (case side3 => exact Zz.k (Kd.C_below HR1_5.out HB.out)); (case side4 => exact HC1_5.out); rintro e w16 ⟨rfl, hb⟩; replace BK785 := Aside0.mk (Zz.bb BK785.out hb); replace BK786 := Aside0.mk (Zz.bb BK786.out hb); replace HB := Aside0.mk (below_step (Zz.i HB.out) hb); (try clear hb)))
    go_meet
    case rel => exact ⟨_, (decide ((a3.size : Int) > 1000)), Zz.q, H', ⟨by first | omega | exact Nat.le_refl _⟩, ⟨Zz.p BK785.out⟩, ⟨Zz.p BK786.out⟩, ⟨by repeat (first | (with_reducible first | exact HB.out | apply below_alloc | apply pw_below_drewN | apply below_drew1 | refine below_set ?_ GE785.out | refine below_set ?_ GE786.out) | exact HB.out)⟩⟩
   replace c11 := Bool.eq_false_iff.mpr c11
   subst c11
   have H1 : (headgatelaw18_WireCut.j0 k a2 a3 true a0_0 a0_1 a0_2 a0_3 a0_4 a0_5 a0_6 a0_7 a0_8 a0_9 a0_10 a0_11 a0_12 a0_13 a0_14 a0_15 a0_16 l0_17 a1_0 a1_1 a1_2 a1_3 l1_4 l1_5) = some r := by rw [if_neg (show ¬ (false = true) by decide)] at H; exact H
   clear H
   have H := H1
   clear H1
   have H' := Aside0.mk H
   clear H
   have hnb17 := NB785_786.out
   have hnc17 := NB786_785.out
   have hcz18 := Zz.c18 BK785.out
   have hfz18 := blk_frozen BK785.out
   go_wp2_with (first | ((with_reducible refine gate_callee (f := 15) rfl ?_); refine goesL_ (some 23) rfl rfl Try.func15 (by kernel_rfl) rfl #[.agg #[.int .i64 a0_13, .int .i64 a0_14, .int .i64 a0_15, .int .i64 a0_16, .slice A0_17 l0_17.length c0_17]] rfl Zz.g ?_; (with_reducible refine (headgatelaw06_Light.calls k a0_13 a0_14 a0_15 a0_16 _ _ l0_17 true _ ?side1 ?side2 A8.out).mono ?_); (case side1 => exact Zz.k (Kd.C_below HR0_17.out HB.out)); (case side2 => exact HC0_17.out); rintro e w19 ⟨rfl, hb⟩; refine ⟨_, rfl, ?_⟩; replace BK785 := Aside0.mk (Zz.bb BK785.out hb); replace BK786 := Aside0.mk (Zz.bb BK786.out hb); replace HB := Aside0.mk (below_step (Zz.i HB.out) hb); (try clear hb); have hcz20 := Zz.c6 BK786.out; have hfz20 := blk_frozen BK786.out) | (go_at_call 8; (with_reducible refine (headgatelaw18_light.calls k a1_0 a1_1 a1_2 a1_3 _ _ l1_4 _ _ l1_5 false _ ?side1 ?side2 ?side3 ?side4 A10.out).mono ?_); (case side1 => exact Zz.k (Kd.C_below HR1_4.out HB.out)); (case side2 => exact HC1_4.out); (case side3 => exact Zz.k (Kd.C_below HR1_5.out HB.out)); (case side4 => exact HC1_5.out); rintro e w21 ⟨rfl, hb⟩; replace BK785 := Aside0.mk (Zz.bb BK785.out hb); replace BK786 := Aside0.mk (Zz.bb BK786.out hb); replace HB := Aside0.mk (below_step (Zz.i HB.out) hb); (try clear hb)))
   go_meet
   case rel => exact ⟨_, (true), Zz.q, H', ⟨by first | omega | exact Nat.le_refl _⟩, ⟨Zz.p BK785.out⟩, ⟨Zz.p BK786.out⟩, ⟨by repeat (first | (with_reducible first | exact HB.out | apply below_alloc | apply pw_below_drewN | apply below_drew1 | refine below_set ?_ GE785.out | refine below_set ?_ GE786.out) | exact HB.out)⟩⟩
  replace c9 := Bool.eq_false_iff.mpr c9
  subst c9
  have H1 : (headgatelaw18_WireCut.j0 k a2 a3 true a0_0 a0_1 a0_2 a0_3 a0_4 a0_5 a0_6 a0_7 a0_8 a0_9 a0_10 a0_11 a0_12 a0_13 a0_14 a0_15 a0_16 l0_17 a1_0 a1_1 a1_2 a1_3 l1_4 l1_5) = some r := by rw [if_neg (show ¬ (false = true) by decide)] at H; exact H
  clear H
  have H := H1
  clear H1
  have H' := Aside0.mk H
  clear H
  have hnb22 := NB785_786.out
  have hnc22 := NB786_785.out
  have hcz23 := Zz.c18 BK785.out
  have hfz23 := blk_frozen BK785.out
  go_wp2_with (first | ((with_reducible refine gate_callee (f := 15) rfl ?_); refine goesL_ (some 23) rfl rfl Try.func15 (by kernel_rfl) rfl #[.agg #[.int .i64 a0_13, .int .i64 a0_14, .int .i64 a0_15, .int .i64 a0_16, .slice A0_17 l0_17.length c0_17]] rfl Zz.g ?_; (with_reducible refine (headgatelaw06_Light.calls k a0_13 a0_14 a0_15 a0_16 _ _ l0_17 false _ ?side1 ?side2 A8.out).mono ?_); (case side1 => exact Zz.k (Kd.C_below HR0_17.out HB.out)); (case side2 => exact HC0_17.out); rintro e w24 ⟨rfl, hb⟩; refine ⟨_, rfl, ?_⟩; replace BK785 := Aside0.mk (Zz.bb BK785.out hb); replace BK786 := Aside0.mk (Zz.bb BK786.out hb); replace HB := Aside0.mk (below_step (Zz.i HB.out) hb); (try clear hb)))
  go_meet
  case rel => exact ⟨_, (true), Zz.q, H', ⟨by first | omega | exact Nat.le_refl _⟩, ⟨Zz.p BK785.out⟩, ⟨Zz.p BK786.out⟩, ⟨by repeat (first | (with_reducible first | exact HB.out | apply below_alloc | apply pw_below_drewN | apply below_drew1 | refine below_set ?_ GE785.out | refine below_set ?_ GE786.out) | exact HB.out)⟩⟩
 clear HC5
 (try clear c1);(try clear c2);(try clear p2);(try clear c7);(try clear c9);(try clear c11);(try clear c12);(try clear c15);(try clear c17);(try clear c22);(try clear hcz13);(try clear hcz15);(try clear hcz18);(try clear hcz20);(try clear hcz23);(try clear hfz13);(try clear hfz15);(try clear hfz18);(try clear hfz20);(try clear hfz23)
 obtain ⟨kq, x34_4, rfl, HA, HJ4, BK785, BK786, HB⟩ := hcut
 cases kq with
 | zero => exact absurd HA.out (by simp [headgatelaw18_WireCut.j0])
 | succ kj4 =>
  have H := HA.out
  clear HA
  simp only [headgatelaw18_WireCut.j0] at H
  by_cases c25 : x34_4 = true
  ·subst c25
   have H1 : ((headgatelaw18_awake.f kj4).bind fun t789 => (some t789)) = some r := by rw [if_pos rfl] at H; exact H
   clear H
   have H := H1
   clear H1
   replace H := Option.bind_eq_some_iff.mp H
   obtain ⟨t789, A260, H⟩ := H
   replace H : (some t789) = some r := H
   have A26 := Aside0.mk A260
   clear A260
   obtain rfl := Option.some.inj H
   go_wp2_with (first | ((with_reducible refine gate_callee (f := 9) rfl ?_); refine goesL_ (some 35) rfl rfl Try.func9 (by kernel_rfl) rfl #[] rfl Zz.g ?_; (with_reducible refine (headgatelaw18_awake.calls kj4  t789 _ A26.out).mono ?_); rintro e w27 ⟨rfl, hb⟩; refine ⟨_, rfl, ?_⟩; replace BK785 := Aside0.mk (Zz.bb BK785.out hb); replace BK786 := Aside0.mk (Zz.bb BK786.out hb); replace HB := Aside0.mk (below_step (Zz.i HB.out) hb); (try clear hb)))
   go_ret
   exact ⟨by first | rfl | (simp [errW_none, errW_some] <;> rfl) | (simp [*, errW_none, errW_some] <;> rfl), by repeat (first | (with_reducible first | exact HB.out | apply below_alloc | apply pw_below_drewN | apply below_drew1 | refine below_set ?_ GE785.out | refine below_set ?_ GE786.out) | exact HB.out)⟩
  replace c25 := Bool.eq_false_iff.mpr c25
  subst c25
  have H1 : ((wire_EncodeAsk.f kj4 a0_0 a0_1 a0_2 a0_3 a0_4 a0_5 a0_6 a0_7 a0_8 a0_9 a0_10 a0_11 a0_12 a0_13 a0_14 a0_15 a0_16 l0_17).bind fun bt790 => ((wire_EncodeReply.f kj4 a1_0 a1_1 a1_2 a1_3 l1_4 l1_5).bind fun bt792 => (if bt790.2 = 0 then (if a2 ≥ 0 then (headgatelaw18_WireCut.j1 kj4 a2 a3 bt790.1 bt790.2 bt792.1 bt792.2 (decide (a2 < (bt790.1.size : Int)))) else (headgatelaw18_WireCut.j1 kj4 a2 a3 bt790.1 bt790.2 bt792.1 bt792.2 false)) else (headgatelaw18_WireCut.j1 kj4 a2 a3 bt790.1 bt790.2 bt792.1 bt792.2 false)))) = some r := by rw [if_neg (show ¬ (false = true) by decide)] at H; exact H
  clear H
  have H := H1
  clear H1
  replace H := Option.bind_eq_some_iff.mp H
  obtain ⟨⟨t790, t791⟩, A280, H⟩ := H
  replace H : ((wire_EncodeReply.f kj4 a1_0 a1_1 a1_2 a1_3 l1_4 l1_5).bind fun bt792 => (if t791 = 0 then (if a2 ≥ 0 then (headgatelaw18_WireCut.j1 kj4 a2 a3 t790 t791 bt792.1 bt792.2 (decide (a2 < (t790.size : Int)))) else (headgatelaw18_WireCut.j1 kj4 a2 a3 t790 t791 bt792.1 bt792.2 false)) else (headgatelaw18_WireCut.j1 kj4 a2 a3 t790 t791 bt792.1 bt792.2 false))) = some r := H
  have A28 := Aside0.mk A280
  clear A280
  replace H := Option.bind_eq_some_iff.mp H
  obtain ⟨⟨t792, t793⟩, A290, H⟩ := H
  replace H : (if t791 = 0 then (if a2 ≥ 0 then (headgatelaw18_WireCut.j1 kj4 a2 a3 t790 t791 t792 t793 (decide (a2 < (t790.size : Int)))) else (headgatelaw18_WireCut.j1 kj4 a2 a3 t790 t791 t792 t793 false)) else (headgatelaw18_WireCut.j1 kj4 a2 a3 t790 t791 t792 t793 false)) = some r := H
  have A29 := Aside0.mk A290
  clear A290
  have HC30 := Aside0.mk H
  clear H
  have hnb31 := NB785_786.out
  have hnc31 := NB786_785.out
  have hcz32 := Zz.c18 BK785.out
  have hfz32 := blk_frozen BK785.out
  go_upto_region 5 with (first | ((with_reducible refine gate_callee (f := 16) rfl ?_); refine goesL_ (some 38) rfl rfl Try.func16 (by kernel_rfl) rfl #[.agg #[.int .i64 a0_0, .int .i64 a0_1, .int .i64 a0_2, .int .i64 a0_3, .int .i64 a0_4, .int .i64 a0_5, .int .i64 a0_6, .int .i64 a0_7, .int .i64 a0_8, .int .i64 a0_9, .int .i64 a0_10, .int .i64 a0_11, .bool a0_12, .int .i64 a0_13, .int .i64 a0_14, .int .i64 a0_15, .int .i64 a0_16, .slice A0_17 l0_17.length c0_17]] rfl Zz.g ?_; (with_reducible refine (wire_EncodeAsk.calls kj4 a0_0 a0_1 a0_2 a0_3 a0_4 a0_5 a0_6 a0_7 a0_8 a0_9 a0_10 a0_11 a0_12 a0_13 a0_14 a0_15 a0_16 _ _ l0_17 t790 t791 _ ?side1 ?side2 A28.out).mono ?_); (case side1 => exact Zz.k (Kd.C_below HR0_17.out HB.out)); (case side2 => exact HC0_17.out); rintro e w33 ⟨rfl, hb⟩; refine ⟨_, rfl, ?_⟩; replace BK785 := Aside0.mk (Zz.bb BK785.out hb); replace BK786 := Aside0.mk (Zz.bb BK786.out hb); replace HB := Aside0.mk (below_step (Zz.i HB.out) hb); (try clear hb); have hcz34 := Zz.c6 BK786.out; have hfz34 := blk_frozen BK786.out) | ((with_reducible refine gate_callee (f := 10) rfl ?_); refine goesL_ (some 43) rfl rfl Try.func10 (by kernel_rfl) rfl #[.agg #[.int .i64 a1_0, .int .i64 a1_1, .int .i64 a1_2, .int .i64 a1_3, .slice A1_4 l1_4.length c1_4, .slice A1_5 l1_5.length c1_5]] rfl Zz.g ?_; (with_reducible refine (wire_EncodeReply.calls kj4 a1_0 a1_1 a1_2 a1_3 _ _ l1_4 _ _ l1_5 t792 t793 _ ?side1 ?side2 ?side3 ?side4 A29.out).mono ?_); (case side1 => exact Zz.k (Kd.C_below HR1_4.out HB.out)); (case side2 => exact HC1_4.out); (case side3 => exact Zz.k (Kd.C_below HR1_5.out HB.out)); (case side4 => exact HC1_5.out); rintro e w35 ⟨rfl, hb⟩; refine ⟨_, rfl, ?_⟩; replace BK785 := Aside0.mk (Zz.bb BK785.out hb); replace BK786 := Aside0.mk (Zz.bb BK786.out hb); replace HB := Aside0.mk (below_step (Zz.i HB.out) hb); (try clear hb)))
  (try simp only [Act.put, List.setIfInBounds_toArray, List.set_cons_zero, List.set_cons_succ])
  go_cut [57] (fun v57 wc => ∃ (kq : Nat) (x57_29 : Bool), v57 = .bool x57_29 ∧ Aside0 (headgatelaw18_WireCut.j1 kq a2 a3 t790 t791 t792 t793 x57_29 = some r) ∧ Aside0 (kq ≤ kj4) ∧ Aside0 (wc.heap[gb785]? = some (.cells #[.int .i64 a0_0, .int .i64 a0_1, .int .i64 a0_2, .int .i64 a0_3, .int .i64 a0_4, .int .i64 a0_5, .int .i64 a0_6, .int .i64 a0_7, .int .i64 a0_8, .int .i64 a0_9, .int .i64 a0_10, .int .i64 a0_11, .bool a0_12, .int .i64 a0_13, .int .i64 a0_14, .int .i64 a0_15, .int .i64 a0_16, (.slice A0_17 l0_17.length c0_17)] 43 (0, 0))) ∧ Aside0 (wc.heap[gb786]? = some (.cells #[.int .i64 a1_0, .int .i64 a1_1, .int .i64 a1_2, .int .i64 a1_3, (.slice A1_4 l1_4.length c1_4), (.slice A1_5 l1_5.length c1_5)] 26 (0, 0))) ∧ Aside0 (Below w.heap.size w wc))
  case first =>
   have H := HC30.out
   clear HC30
   by_cases c36 : t791 = 0
   ·rw [if_pos c36] at H
    have c36b0 : (t791 == 0) = true := beq_iff_eq.mpr c36
    have c36b1 : (t791 != 0) = false := bne_eq_false_iff_eq.mpr c36
    clear c36
    (first | rw [c36b0] | rw [c36b9] | (simp only [i64_w, i32_w]; rw [c36b0]) | skip)
    by_cases c37 : a2 ≥ 0
    ·rw [if_pos c37] at H
     have c37b0 : decide (0 ≤ a2) = true := decide_eq_true c37
     clear c37
     have H' := Aside0.mk H
     clear H
     go_wp2
     go_meet
     case rel => exact ⟨_, (decide (a2 < (t790.size : Int))), Zz.q, H', ⟨by have := HJ4.out; first | omega | exact Nat.le_refl _⟩, ⟨Zz.p BK785.out⟩, ⟨Zz.p BK786.out⟩, ⟨by repeat (first | (with_reducible first | exact HB.out | apply below_alloc | apply pw_below_drewN | apply below_drew1 | refine below_set ?_ GE785.out | refine below_set ?_ GE786.out) | exact HB.out)⟩⟩
    rw [if_neg c37] at H
    have c37b0 : decide (0 ≤ a2) = false := decide_eq_false c37
    clear c37
    have H' := Aside0.mk H
    clear H
    go_wp2
    go_meet
    case rel => exact ⟨_, (false), Zz.q, H', ⟨by have := HJ4.out; first | omega | exact Nat.le_refl _⟩, ⟨Zz.p BK785.out⟩, ⟨Zz.p BK786.out⟩, ⟨by repeat (first | (with_reducible first | exact HB.out | apply below_alloc | apply pw_below_drewN | apply below_drew1 | refine below_set ?_ GE785.out | refine below_set ?_ GE786.out) | exact HB.out)⟩⟩
   rw [if_neg c36] at H
   have c36b0 : (t791 == 0) = false := beq_eq_false_iff_ne.mpr c36
   have c36b1 : (t791 != 0) = true := bne_iff_ne.mpr c36
   (first | rw [c36b0] | rw [c36b9] | (simp only [i64_w, i32_w]; rw [c36b0]) | skip)
   have H' := Aside0.mk H
   clear H
   go_wp2
   go_meet
   case rel => exact ⟨_, (false), Zz.q, H', ⟨by have := HJ4.out; first | omega | exact Nat.le_refl _⟩, ⟨Zz.p BK785.out⟩, ⟨Zz.p BK786.out⟩, ⟨by repeat (first | (with_reducible first | exact HB.out | apply below_alloc | apply pw_below_drewN | apply below_drew1 | refine below_set ?_ GE785.out | refine below_set ?_ GE786.out) | exact HB.out)⟩⟩
  clear HC30
  (try clear c1);(try clear c2);(try clear p2);(try clear c3);(try clear c7);(try clear c9);(try clear c10);(try clear c11);(try clear c12);(try clear c15);(try clear c16);(try clear c17);(try clear c22);(try clear c25);(try clear c31);(try clear c36);(try clear c36b0);(try clear c36b1);(try clear c37);(try clear c37b0);(try clear hcz13);(try clear hcz15);(try clear hcz18);(try clear hcz20);(try clear hcz23);(try clear hcz32);(try clear hcz34);(try clear hfz13);(try clear hfz15);(try clear hfz18);(try clear hfz20);(try clear hfz23);(try clear hfz32);(try clear hfz34)
  obtain ⟨kq, x57_29, rfl, HA, HJ29, BK785, BK786, HB⟩ := hcut
  cases kq with
  | zero => exact absurd HA.out (by simp [headgatelaw18_WireCut.j1])
  | succ kj29 =>
   have H := HA.out
   clear HA
   simp only [headgatelaw18_WireCut.j1] at H
   have HC38 := Aside0.mk H
   clear H
   go_upto_if 57 with (fail)
   go_cut [] (fun wc => ∃ (kq : Nat), Aside0 (headgatelaw18_WireCut.j2 kq a2 a3 t790 t791 t792 t793 = some r) ∧ Aside0 (kq ≤ kj29) ∧ Aside0 (wc.heap[gb785]? = some (.cells #[.int .i64 a0_0, .int .i64 a0_1, .int .i64 a0_2, .int .i64 a0_3, .int .i64 a0_4, .int .i64 a0_5, .int .i64 a0_6, .int .i64 a0_7, .int .i64 a0_8, .int .i64 a0_9, .int .i64 a0_10, .int .i64 a0_11, .bool a0_12, .int .i64 a0_13, .int .i64 a0_14, .int .i64 a0_15, .int .i64 a0_16, (.slice A0_17 l0_17.length c0_17)] 43 (0, 0))) ∧ Aside0 (wc.heap[gb786]? = some (.cells #[.int .i64 a1_0, .int .i64 a1_1, .int .i64 a1_2, .int .i64 a1_3, (.slice A1_4 l1_4.length c1_4), (.slice A1_5 l1_5.length c1_5)] 26 (0, 0))) ∧ Aside0 (Below w.heap.size w wc))
   case first =>
    have H := HC38.out
    clear HC38
    by_cases c39 : x57_29 = true
    ·subst c39
     have H1 : (if 0 ≤ a2 then (if a2 ≤ (t790.size : Int) then ((wire_DecodeAsk.f kj29 (t790.extract 0 (a2 : Int).toNat)).bind fun bt794 => (if bt794.2.2.2.2.2.2.2.2.2.2.2.2.2.2.2.2.2.2 = 2 then (headgatelaw18_WireCut.j2 kj29 a2 a3 t790 t791 t792 t793) else (some false))) else (none)) else (none)) = some r := by rw [if_pos rfl] at H; exact H
     clear H
     have H := H1
     clear H1
     by_cases c40 : 0 ≤ a2
     ·rw [if_pos c40] at H
      have c40b0 := eq_true c40
      have c40b1 : decide (0 ≤ a2) = true := decide_eq_true c40
      clear c40
      by_cases c41 : a2 ≤ (t790.size : Int)
      ·rw [if_pos c41] at H
       have c41b0 := eq_true c41
       have c41b1 : decide (a2 ≤ (t790.size : Int)) = true := decide_eq_true c41
       clear c41
       replace H := Option.bind_eq_some_iff.mp H
       obtain ⟨⟨t794, t795, t796, t797, t798, t799, t800, t801, t802, t803, t804, t805, t806, t807, t808, t809, t810, t811, t814⟩, A420, H⟩ := H
       replace H : (if t814 = 2 then (headgatelaw18_WireCut.j2 kj29 a2 a3 t790 t791 t792 t793) else (some false)) = some r := H
       have A42 := Aside0.mk A420
       clear A420
       by_cases c43 : t814 = 2
       ·rw [if_pos c43] at H
        have c43b0 : (t814 == 2) = true := beq_iff_eq.mpr c43
        have c43b1 : (t814 != 2) = false := bne_eq_false_iff_eq.mpr c43
        clear c43
        (first | rw [c43b0] | rw [c43b9] | (simp only [i64_w, i32_w]; rw [c43b0]) | skip)
        have H' := Aside0.mk H
        clear H
        go_wp2_with (first | ((with_reducible refine gate_callee (f := 18) rfl ?_); refine goesL_ (some 62) rfl rfl Try.func18 (by kernel_rfl) rfl #[.string (t790.extract 0 (a2 : Int).toNat)] rfl Zz.g ?_; (with_reducible refine (wire_DecodeAsk.calls kj29 (t790.extract 0 (a2 : Int).toNat) t794 t795 t796 t797 t798 t799 t800 t801 t802 t803 t804 t805 t806 t807 t808 t809 t810 t811 t814 _ A42.out).mono ?_); rintro e w44 ⟨v812, rfl, ho0, hb⟩; refine ⟨_, rfl, ?_⟩; have HO813 := Aside0.mk (Kd.R_lower ho0 (below_size (Zz.i HB.out))); replace BK785 := Aside0.mk (Zz.bb BK785.out hb); replace BK786 := Aside0.mk (Zz.bb BK786.out hb); replace HB := Aside0.mk (below_step (Zz.i HB.out) hb); (try clear hb); (try clear ho0)) | ((with_reducible refine gate_dst (N := 13) rfl ?_); (try (refine gate_guard (by rfl) ?_; dsimp only)); refine box_event ?hg (N := 13) ?hd (cs := #[.int .i64 0, .int .i64 0, .int .i64 0, .int .i64 0, .int .i64 0, .int .i64 0, .int .i64 0, .int .i64 0, .int .i64 0, .int .i64 0, .int .i64 0, .int .i64 0, .bool false, .int .i64 0, .int .i64 0, .int .i64 0, .int .i64 0, .slice none 0 0]) (t := 43) ?hr ?_; (case hd => rfl); (case hg => rfl); (case hr => first | (go_simp; done) | (go_simp; rfl)); intro gb815 hg w45 hbox hb; replace HO813 := Aside0.mk (Kd.R_below (Zz.r HO813.out) hb); have BK815 := Aside0.mk (hbox); have GW815 := Aside0.mk (Zz.ge hg HB.out); have GE815 := Aside0.mk (Zz.ge hg HB.out); replace HB := Aside0.mk (below_step (Zz.i HB.out) hb); have NB785_815 := Aside0.mk (Zz.nl hg BK785.out); have NB815_785 := Aside0.mk (Zz.ng hg BK785.out); replace BK785 := Aside0.mk (Zz.bb BK785.out hb); have NB786_815 := Aside0.mk (Zz.nl hg BK786.out); have NB815_786 := Aside0.mk (Zz.ng hg BK786.out); replace BK786 := Aside0.mk (Zz.bb BK786.out hb); clear hb hbox hg; have hnb46 := NB815_785.out; have hnc46 := NB785_815.out; have hnb47 := NB815_786.out; have hnc47 := NB786_815.out; have hcz48 := Zz.c18 BK815.out; have hfz48 := blk_frozen BK815.out; obtain ⟨Ao49, co49, eo49⟩ := Kd.R_slice HO813.out; subst eo49))
        go_meet
        case rel => exact ⟨_, H', ⟨by have := HJ4.out; have := HJ29.out; first | omega | exact Nat.le_refl _⟩, ⟨by exact Zz.q18 BK785.out NB785_815.out⟩, ⟨by exact Zz.q18 BK786.out NB786_815.out⟩, ⟨by repeat (first | (with_reducible first | exact HB.out | apply below_alloc | apply pw_below_drewN | apply below_drew1 | refine below_set ?_ GE785.out | refine below_set ?_ GE786.out | refine below_set ?_ GE815.out) | exact HB.out)⟩⟩
       rw [if_neg c43] at H
       have c43b0 : (t814 == 2) = false := beq_eq_false_iff_ne.mpr c43
       have c43b1 : (t814 != 2) = true := bne_iff_ne.mpr c43
       (first | rw [c43b0] | rw [c43b9] | (simp only [i64_w, i32_w]; rw [c43b0]) | skip)
       obtain rfl := Option.some.inj H
       go_wp2_with (first | ((with_reducible refine gate_callee (f := 18) rfl ?_); refine goesL_ (some 62) rfl rfl Try.func18 (by kernel_rfl) rfl #[.string (t790.extract 0 (a2 : Int).toNat)] rfl Zz.g ?_; (with_reducible refine (wire_DecodeAsk.calls kj29 (t790.extract 0 (a2 : Int).toNat) t794 t795 t796 t797 t798 t799 t800 t801 t802 t803 t804 t805 t806 t807 t808 t809 t810 t811 t814 _ A42.out).mono ?_); rintro e w50 ⟨v812, rfl, ho0, hb⟩; refine ⟨_, rfl, ?_⟩; have HO813 := Aside0.mk (Kd.R_lower ho0 (below_size (Zz.i HB.out))); replace BK785 := Aside0.mk (Zz.bb BK785.out hb); replace BK786 := Aside0.mk (Zz.bb BK786.out hb); replace HB := Aside0.mk (below_step (Zz.i HB.out) hb); (try clear hb); (try clear ho0)) | ((with_reducible refine gate_dst (N := 13) rfl ?_); (try (refine gate_guard (by rfl) ?_; dsimp only)); refine box_event ?hg (N := 13) ?hd (cs := #[.int .i64 0, .int .i64 0, .int .i64 0, .int .i64 0, .int .i64 0, .int .i64 0, .int .i64 0, .int .i64 0, .int .i64 0, .int .i64 0, .int .i64 0, .int .i64 0, .bool false, .int .i64 0, .int .i64 0, .int .i64 0, .int .i64 0, .slice none 0 0]) (t := 43) ?hr ?_; (case hd => rfl); (case hg => rfl); (case hr => first | (go_simp; done) | (go_simp; rfl)); intro gb815 hg w51 hbox hb; replace HO813 := Aside0.mk (Kd.R_below (Zz.r HO813.out) hb); have BK815 := Aside0.mk (hbox); have GW815 := Aside0.mk (Zz.ge hg HB.out); have GE815 := Aside0.mk (Zz.ge hg HB.out); replace HB := Aside0.mk (below_step (Zz.i HB.out) hb); have NB785_815 := Aside0.mk (Zz.nl hg BK785.out); have NB815_785 := Aside0.mk (Zz.ng hg BK785.out); replace BK785 := Aside0.mk (Zz.bb BK785.out hb); have NB786_815 := Aside0.mk (Zz.nl hg BK786.out); have NB815_786 := Aside0.mk (Zz.ng hg BK786.out); replace BK786 := Aside0.mk (Zz.bb BK786.out hb); clear hb hbox hg; have hnb52 := NB815_785.out; have hnc52 := NB785_815.out; have hnb53 := NB815_786.out; have hnc53 := NB786_815.out; have hcz54 := Zz.c18 BK815.out; have hfz54 := blk_frozen BK815.out; obtain ⟨Ao55, co55, eo55⟩ := Kd.R_slice HO813.out; subst eo55))
       go_ret
       exact ⟨by first | rfl | (simp [errW_none, errW_some] <;> rfl) | (simp [*, errW_none, errW_some] <;> rfl), by repeat (first | (with_reducible first | exact HB.out | apply below_alloc | apply pw_below_drewN | apply below_drew1 | refine below_set ?_ GE785.out | refine below_set ?_ GE786.out | refine below_set ?_ GE815.out) | exact HB.out)⟩
      rw [if_neg c41] at H
      exact absurd H (by simp)
     rw [if_neg c40] at H
     exact absurd H (by simp)
    replace c39 := Bool.eq_false_iff.mpr c39
    subst c39
    have H1 : (headgatelaw18_WireCut.j2 kj29 a2 a3 t790 t791 t792 t793) = some r := by rw [if_neg (show ¬ (false = true) by decide)] at H; exact H
    clear H
    have H := H1
    clear H1
    have H' := Aside0.mk H
    clear H
    go_wp2
    go_meet
    case rel => exact ⟨_, H', ⟨by have := HJ4.out; have := HJ29.out; first | omega | exact Nat.le_refl _⟩, ⟨Zz.p BK785.out⟩, ⟨Zz.p BK786.out⟩, ⟨by repeat (first | (with_reducible first | exact HB.out | apply below_alloc | apply pw_below_drewN | apply below_drew1 | refine below_set ?_ GE785.out | refine below_set ?_ GE786.out) | exact HB.out)⟩⟩
   clear HC38
   (try clear c1);(try clear c2);(try clear p2);(try clear c3);(try clear c4);(try clear c5);(try clear c7);(try clear c9);(try clear c10);(try clear c11);(try clear c12);(try clear c15);(try clear c16);(try clear c17);(try clear c18);(try clear c22);(try clear c25);(try clear c31);(try clear c36);(try clear c36b0);(try clear c36b1);(try clear c37);(try clear c37b0);(try clear c39);(try clear c40);(try clear c40b0);(try clear c40b1);(try clear c41);(try clear c41b0);(try clear c41b1);(try clear c43);(try clear c43b0);(try clear c43b1);(try clear c46);(try clear c47);(try clear c52);(try clear c53);(try clear hcz13);(try clear hcz15);(try clear hcz18);(try clear hcz20);(try clear hcz23);(try clear hcz32);(try clear hcz34);(try clear hcz48);(try clear hcz54);(try clear hfz13);(try clear hfz15);(try clear hfz18);(try clear hfz20);(try clear hfz23);(try clear hfz32);(try clear hfz34);(try clear hfz48);(try clear hfz54)
   obtain ⟨kq, HA, HJ37, BK785, BK786, HB⟩ := hcut
   cases kq with
   | zero => exact absurd HA.out (by simp [headgatelaw18_WireCut.j2])
   | succ kj37 =>
    have H := HA.out
    clear HA
    simp only [headgatelaw18_WireCut.j2] at H
    have HC56 := Aside0.mk H
    clear H
    go_upto_region 9 with (fail)
    go_cut [78] (fun v78 wc => ∃ (kq : Nat) (x78_55 : Bool), v78 = .bool x78_55 ∧ Aside0 (headgatelaw18_WireCut.j3 kq a2 a3 t790 t791 t792 t793 x78_55 = some r) ∧ Aside0 (kq ≤ kj37) ∧ Aside0 (wc.heap[gb785]? = some (.cells #[.int .i64 a0_0, .int .i64 a0_1, .int .i64 a0_2, .int .i64 a0_3, .int .i64 a0_4, .int .i64 a0_5, .int .i64 a0_6, .int .i64 a0_7, .int .i64 a0_8, .int .i64 a0_9, .int .i64 a0_10, .int .i64 a0_11, .bool a0_12, .int .i64 a0_13, .int .i64 a0_14, .int .i64 a0_15, .int .i64 a0_16, (.slice A0_17 l0_17.length c0_17)] 43 (0, 0))) ∧ Aside0 (wc.heap[gb786]? = some (.cells #[.int .i64 a1_0, .int .i64 a1_1, .int .i64 a1_2, .int .i64 a1_3, (.slice A1_4 l1_4.length c1_4), (.slice A1_5 l1_5.length c1_5)] 26 (0, 0))) ∧ Aside0 (Below w.heap.size w wc))
    case first =>
     have H := HC56.out
     clear HC56
     by_cases c57 : t793 = 0
     ·rw [if_pos c57] at H
      have c57b0 : (t793 == 0) = true := beq_iff_eq.mpr c57
      have c57b1 : (t793 != 0) = false := bne_eq_false_iff_eq.mpr c57
      clear c57
      (first | rw [c57b0] | rw [c57b9] | (simp only [i64_w, i32_w]; rw [c57b0]) | skip)
      by_cases c58 : a2 ≥ 0
      ·rw [if_pos c58] at H
       have c58b0 : decide (0 ≤ a2) = true := decide_eq_true c58
       clear c58
       have H' := Aside0.mk H
       clear H
       go_wp2
       go_meet
       case rel => exact ⟨_, (decide (a2 < (t792.size : Int))), Zz.q, H', ⟨by have := HJ4.out; have := HJ29.out; have := HJ37.out; first | omega | exact Nat.le_refl _⟩, ⟨Zz.p BK785.out⟩, ⟨Zz.p BK786.out⟩, ⟨by repeat (first | (with_reducible first | exact HB.out | apply below_alloc | apply pw_below_drewN | apply below_drew1 | refine below_set ?_ GE785.out | refine below_set ?_ GE786.out) | exact HB.out)⟩⟩
      rw [if_neg c58] at H
      have c58b0 : decide (0 ≤ a2) = false := decide_eq_false c58
      clear c58
      have H' := Aside0.mk H
      clear H
      go_wp2
      go_meet
      case rel => exact ⟨_, (false), Zz.q, H', ⟨by have := HJ4.out; have := HJ29.out; have := HJ37.out; first | omega | exact Nat.le_refl _⟩, ⟨Zz.p BK785.out⟩, ⟨Zz.p BK786.out⟩, ⟨by repeat (first | (with_reducible first | exact HB.out | apply below_alloc | apply pw_below_drewN | apply below_drew1 | refine below_set ?_ GE785.out | refine below_set ?_ GE786.out) | exact HB.out)⟩⟩
     rw [if_neg c57] at H
     have c57b0 : (t793 == 0) = false := beq_eq_false_iff_ne.mpr c57
     have c57b1 : (t793 != 0) = true := bne_iff_ne.mpr c57
     (first | rw [c57b0] | rw [c57b9] | (simp only [i64_w, i32_w]; rw [c57b0]) | skip)
     have H' := Aside0.mk H
     clear H
     go_wp2
     go_meet
     case rel => exact ⟨_, (false), Zz.q, H', ⟨by have := HJ4.out; have := HJ29.out; have := HJ37.out; first | omega | exact Nat.le_refl _⟩, ⟨Zz.p BK785.out⟩, ⟨Zz.p BK786.out⟩, ⟨by repeat (first | (with_reducible first | exact HB.out | apply below_alloc | apply pw_below_drewN | apply below_drew1 | refine below_set ?_ GE785.out | refine below_set ?_ GE786.out) | exact HB.out)⟩⟩
    clear HC56
    (try clear c1);(try clear c2);(try clear p2);(try clear c3);(try clear c4);(try clear c5);(try clear c7);(try clear c9);(try clear c10);(try clear c11);(try clear c12);(try clear c15);(try clear c16);(try clear c17);(try clear c18);(try clear c22);(try clear c25);(try clear c31);(try clear c36);(try clear c36b0);(try clear c36b1);(try clear c37);(try clear c37b0);(try clear c39);(try clear c40);(try clear c40b0);(try clear c40b1);(try clear c41);(try clear c41b0);(try clear c41b1);(try clear c43);(try clear c43b0);(try clear c43b1);(try clear c46);(try clear c47);(try clear c52);(try clear c53);(try clear c57);(try clear c57b0);(try clear c57b1);(try clear c58);(try clear c58b0);(try clear hcz13);(try clear hcz15);(try clear hcz18);(try clear hcz20);(try clear hcz23);(try clear hcz32);(try clear hcz34);(try clear hcz48);(try clear hcz54);(try clear hfz13);(try clear hfz15);(try clear hfz18);(try clear hfz20);(try clear hfz23);(try clear hfz32);(try clear hfz34);(try clear hfz48);(try clear hfz54)
    obtain ⟨kq, x78_55, rfl, HA, HJ55, BK785, BK786, HB⟩ := hcut
    cases kq with
    | zero => exact absurd HA.out (by simp [headgatelaw18_WireCut.j3])
    | succ kj55 =>
     have H := HA.out
     clear HA
     simp only [headgatelaw18_WireCut.j3] at H
     have HC59 := Aside0.mk H
     clear H
     go_upto_if 78 with (fail)
     go_cut [] (fun wc => ∃ (kq : Nat), Aside0 (headgatelaw18_WireCut.j4 kq a3 t790 t791 t792 t793 = some r) ∧ Aside0 (kq ≤ kj55) ∧ Aside0 (wc.heap[gb785]? = some (.cells #[.int .i64 a0_0, .int .i64 a0_1, .int .i64 a0_2, .int .i64 a0_3, .int .i64 a0_4, .int .i64 a0_5, .int .i64 a0_6, .int .i64 a0_7, .int .i64 a0_8, .int .i64 a0_9, .int .i64 a0_10, .int .i64 a0_11, .bool a0_12, .int .i64 a0_13, .int .i64 a0_14, .int .i64 a0_15, .int .i64 a0_16, (.slice A0_17 l0_17.length c0_17)] 43 (0, 0))) ∧ Aside0 (wc.heap[gb786]? = some (.cells #[.int .i64 a1_0, .int .i64 a1_1, .int .i64 a1_2, .int .i64 a1_3, (.slice A1_4 l1_4.length c1_4), (.slice A1_5 l1_5.length c1_5)] 26 (0, 0))) ∧ Aside0 (Below w.heap.size w wc))
     case first =>
      have H := HC59.out
      clear HC59
      by_cases c60 : x78_55 = true
      ·subst c60
       have H1 : (if 0 ≤ a2 then (if a2 ≤ (t792.size : Int) then ((wire_DecodeReply.f kj55 (t792.extract 0 (a2 : Int).toNat)).bind fun bt816 => (if bt816.2.2.2.2.2.2 = 2 then (headgatelaw18_WireCut.j4 kj55 a3 t790 t791 t792 t793) else (some false))) else (none)) else (none)) = some r := by rw [if_pos rfl] at H; exact H
       clear H
       have H := H1
       clear H1
       by_cases c61 : 0 ≤ a2
       ·rw [if_pos c61] at H
        have c61b0 := eq_true c61
        have c61b1 : decide (0 ≤ a2) = true := decide_eq_true c61
        clear c61
        by_cases c62 : a2 ≤ (t792.size : Int)
        ·rw [if_pos c62] at H
         have c62b0 := eq_true c62
         have c62b1 : decide (a2 ≤ (t792.size : Int)) = true := decide_eq_true c62
         clear c62
         replace H := Option.bind_eq_some_iff.mp H
         obtain ⟨⟨t816, t817, t818, t819, t820, t823, t826⟩, A630, H⟩ := H
         replace H : (if t826 = 2 then (headgatelaw18_WireCut.j4 kj55 a3 t790 t791 t792 t793) else (some false)) = some r := H
         have A63 := Aside0.mk A630
         clear A630
         by_cases c64 : t826 = 2
         ·rw [if_pos c64] at H
          have c64b0 : (t826 == 2) = true := beq_iff_eq.mpr c64
          have c64b1 : (t826 != 2) = false := bne_eq_false_iff_eq.mpr c64
          clear c64
          (first | rw [c64b0] | rw [c64b9] | (simp only [i64_w, i32_w]; rw [c64b0]) | skip)
          have H' := Aside0.mk H
          clear H
          go_wp2_with (first | ((with_reducible refine gate_callee (f := 12) rfl ?_); refine goesL_ (some 83) rfl rfl Try.func12 (by kernel_rfl) rfl #[.string (t792.extract 0 (a2 : Int).toNat)] rfl Zz.g ?_; (with_reducible refine (wire_DecodeReply.calls kj55 (t792.extract 0 (a2 : Int).toNat) t816 t817 t818 t819 t820 t823 t826 _ A63.out).mono ?_); rintro e w65 ⟨v821, v824, rfl, ho0, ho1, hb⟩; refine ⟨_, rfl, ?_⟩; have HO822 := Aside0.mk (Kd.R_lower ho0 (below_size (Zz.i HB.out))); have HO825 := Aside0.mk (Kd.R_lower ho1 (below_size (Zz.i HB.out))); replace BK785 := Aside0.mk (Zz.bb BK785.out hb); replace BK786 := Aside0.mk (Zz.bb BK786.out hb); replace HB := Aside0.mk (below_step (Zz.i HB.out) hb); (try clear hb); (try clear ho0); (try clear ho1)) | ((with_reducible refine gate_dst (N := 15) rfl ?_); (try (refine gate_guard (by rfl) ?_; dsimp only)); refine box_event ?hg (N := 15) ?hd (cs := #[.int .i64 0, .int .i64 0, .int .i64 0, .int .i64 0, .slice none 0 0, .slice none 0 0]) (t := 26) ?hr ?_; (case hd => rfl); (case hg => rfl); (case hr => first | (go_simp; done) | (go_simp; rfl)); intro gb827 hg w66 hbox hb; replace HO822 := Aside0.mk (Kd.R_below (Zz.r HO822.out) hb); replace HO825 := Aside0.mk (Kd.R_below (Zz.r HO825.out) hb); have BK827 := Aside0.mk (hbox); have GW827 := Aside0.mk (Zz.ge hg HB.out); have GE827 := Aside0.mk (Zz.ge hg HB.out); replace HB := Aside0.mk (below_step (Zz.i HB.out) hb); have NB785_827 := Aside0.mk (Zz.nl hg BK785.out); have NB827_785 := Aside0.mk (Zz.ng hg BK785.out); replace BK785 := Aside0.mk (Zz.bb BK785.out hb); have NB786_827 := Aside0.mk (Zz.nl hg BK786.out); have NB827_786 := Aside0.mk (Zz.ng hg BK786.out); replace BK786 := Aside0.mk (Zz.bb BK786.out hb); clear hb hbox hg; have hnb67 := NB827_785.out; have hnc67 := NB785_827.out; have hnb68 := NB827_786.out; have hnc68 := NB786_827.out; have hcz69 := Zz.c6 BK827.out; have hfz69 := blk_frozen BK827.out; obtain ⟨Ao70, co70, eo70⟩ := Kd.R_slice HO822.out; subst eo70; obtain ⟨Ao71, co71, eo71⟩ := Kd.R_slice HO825.out; subst eo71))
          go_meet
          case rel => exact ⟨_, H', ⟨by have := HJ4.out; have := HJ29.out; have := HJ37.out; have := HJ55.out; first | omega | exact Nat.le_refl _⟩, ⟨by exact Zz.q6 BK785.out NB785_827.out⟩, ⟨by exact Zz.q6 BK786.out NB786_827.out⟩, ⟨by repeat (first | (with_reducible first | exact HB.out | apply below_alloc | apply pw_below_drewN | apply below_drew1 | refine below_set ?_ GE785.out | refine below_set ?_ GE786.out | refine below_set ?_ GE827.out) | exact HB.out)⟩⟩
         rw [if_neg c64] at H
         have c64b0 : (t826 == 2) = false := beq_eq_false_iff_ne.mpr c64
         have c64b1 : (t826 != 2) = true := bne_iff_ne.mpr c64
         (first | rw [c64b0] | rw [c64b9] | (simp only [i64_w, i32_w]; rw [c64b0]) | skip)
         obtain rfl := Option.some.inj H
         go_wp2_with (first | ((with_reducible refine gate_callee (f := 12) rfl ?_); refine goesL_ (some 83) rfl rfl Try.func12 (by kernel_rfl) rfl #[.string (t792.extract 0 (a2 : Int).toNat)] rfl Zz.g ?_; (with_reducible refine (wire_DecodeReply.calls kj55 (t792.extract 0 (a2 : Int).toNat) t816 t817 t818 t819 t820 t823 t826 _ A63.out).mono ?_); rintro e w72 ⟨v821, v824, rfl, ho0, ho1, hb⟩; refine ⟨_, rfl, ?_⟩; have HO822 := Aside0.mk (Kd.R_lower ho0 (below_size (Zz.i HB.out))); have HO825 := Aside0.mk (Kd.R_lower ho1 (below_size (Zz.i HB.out))); replace BK785 := Aside0.mk (Zz.bb BK785.out hb); replace BK786 := Aside0.mk (Zz.bb BK786.out hb); replace HB := Aside0.mk (below_step (Zz.i HB.out) hb); (try clear hb); (try clear ho0); (try clear ho1)) | ((with_reducible refine gate_dst (N := 15) rfl ?_); (try (refine gate_guard (by rfl) ?_; dsimp only)); refine box_event ?hg (N := 15) ?hd (cs := #[.int .i64 0, .int .i64 0, .int .i64 0, .int .i64 0, .slice none 0 0, .slice none 0 0]) (t := 26) ?hr ?_; (case hd => rfl); (case hg => rfl); (case hr => first | (go_simp; done) | (go_simp; rfl)); intro gb827 hg w73 hbox hb; replace HO822 := Aside0.mk (Kd.R_below (Zz.r HO822.out) hb); replace HO825 := Aside0.mk (Kd.R_below (Zz.r HO825.out) hb); have BK827 := Aside0.mk (hbox); have GW827 := Aside0.mk (Zz.ge hg HB.out); have GE827 := Aside0.mk (Zz.ge hg HB.out); replace HB := Aside0.mk (below_step (Zz.i HB.out) hb); have NB785_827 := Aside0.mk (Zz.nl hg BK785.out); have NB827_785 := Aside0.mk (Zz.ng hg BK785.out); replace BK785 := Aside0.mk (Zz.bb BK785.out hb); have NB786_827 := Aside0.mk (Zz.nl hg BK786.out); have NB827_786 := Aside0.mk (Zz.ng hg BK786.out); replace BK786 := Aside0.mk (Zz.bb BK786.out hb); clear hb hbox hg; have hnb74 := NB827_785.out; have hnc74 := NB785_827.out; have hnb75 := NB827_786.out; have hnc75 := NB786_827.out; have hcz76 := Zz.c6 BK827.out; have hfz76 := blk_frozen BK827.out; obtain ⟨Ao77, co77, eo77⟩ := Kd.R_slice HO822.out; subst eo77; obtain ⟨Ao78, co78, eo78⟩ := Kd.R_slice HO825.out; subst eo78))
         go_ret
         exact ⟨by first | rfl | (simp [errW_none, errW_some] <;> rfl) | (simp [*, errW_none, errW_some] <;> rfl), by repeat (first | (with_reducible first | exact HB.out | apply below_alloc | apply pw_below_drewN | apply below_drew1 | refine below_set ?_ GE785.out | refine below_set ?_ GE786.out | refine below_set ?_ GE827.out) | exact HB.out)⟩
        rw [if_neg c62] at H
        exact absurd H (by simp)
       rw [if_neg c61] at H
       exact absurd H (by simp)
      replace c60 := Bool.eq_false_iff.mpr c60
      subst c60
      have H1 : (headgatelaw18_WireCut.j4 kj55 a3 t790 t791 t792 t793) = some r := by rw [if_neg (show ¬ (false = true) by decide)] at H; exact H
      clear H
      have H := H1
      clear H1
      have H' := Aside0.mk H
      clear H
      go_wp2
      go_meet
      case rel => exact ⟨_, H', ⟨by have := HJ4.out; have := HJ29.out; have := HJ37.out; have := HJ55.out; first | omega | exact Nat.le_refl _⟩, ⟨Zz.p BK785.out⟩, ⟨Zz.p BK786.out⟩, ⟨by repeat (first | (with_reducible first | exact HB.out | apply below_alloc | apply pw_below_drewN | apply below_drew1 | refine below_set ?_ GE785.out | refine below_set ?_ GE786.out) | exact HB.out)⟩⟩
     clear HC59
     (try clear c1);(try clear c2);(try clear p2);(try clear c3);(try clear c4);(try clear c5);(try clear c6);(try clear c7);(try clear c9);(try clear c10);(try clear c11);(try clear c12);(try clear c15);(try clear c16);(try clear c17);(try clear c18);(try clear c22);(try clear c25);(try clear c31);(try clear c36);(try clear c36b0);(try clear c36b1);(try clear c37);(try clear c37b0);(try clear c39);(try clear c40);(try clear c40b0);(try clear c40b1);(try clear c41);(try clear c41b0);(try clear c41b1);(try clear c43);(try clear c43b0);(try clear c43b1);(try clear c46);(try clear c47);(try clear c52);(try clear c53);(try clear c57);(try clear c57b0);(try clear c57b1);(try clear c58);(try clear c58b0);(try clear c60);(try clear c61);(try clear c61b0);(try clear c61b1);(try clear c62);(try clear c62b0);(try clear c62b1);(try clear c64);(try clear c64b0);(try clear c64b1);(try clear c67);(try clear c68);(try clear c74);(try clear c75);(try clear hcz13);(try clear hcz15);(try clear hcz18);(try clear hcz20);(try clear hcz23);(try clear hcz32);(try clear hcz34);(try clear hcz48);(try clear hcz54);(try clear hcz69);(try clear hcz76);(try clear hfz13);(try clear hfz15);(try clear hfz18);(try clear hfz20);(try clear hfz23);(try clear hfz32);(try clear hfz34);(try clear hfz48);(try clear hfz54);(try clear hfz69);(try clear hfz76)
     obtain ⟨kq, HA, HJ58, BK785, BK786, HB⟩ := hcut
     cases kq with
     | zero => exact absurd HA.out (by simp [headgatelaw18_WireCut.j4])
     | succ kj58 =>
      have H := HA.out
      clear HA
      simp only [headgatelaw18_WireCut.j4] at H
      by_cases c79 : a3.toList = ([] : List UInt8)
      ·rw [if_pos c79] at H
       have c79b0 : (a3.toList == ([] : List UInt8)) = true := beq_iff_eq.mpr c79
       try (have c79b9 : a3.toList.isEmpty = true := List.isEmpty_iff.mpr (beq_iff_eq.mp c79b0))
       have c79b1 : (a3.toList != ([] : List UInt8)) = false := bne_eq_false_iff_eq.mpr c79
       clear c79
       replace H := Option.bind_eq_some_iff.mp H
       obtain ⟨t828, A800, H⟩ := H
       replace H : (some t828) = some r := H
       have A80 := Aside0.mk A800
       clear A800
       obtain rfl := Option.some.inj H
       go_wp2_with (first | ((with_reducible refine gate_callee (f := 9) rfl ?_); refine goesL_ (some 90) rfl rfl Try.func9 (by kernel_rfl) rfl #[] rfl Zz.g ?_; (with_reducible refine (headgatelaw18_awake.calls kj58  t828 _ A80.out).mono ?_); rintro e w81 ⟨rfl, hb⟩; refine ⟨_, rfl, ?_⟩; replace BK785 := Aside0.mk (Zz.bb BK785.out hb); replace BK786 := Aside0.mk (Zz.bb BK786.out hb); replace HB := Aside0.mk (below_step (Zz.i HB.out) hb); (try clear hb)))
       go_ret
       exact ⟨by first | rfl | (simp [errW_none, errW_some] <;> rfl) | (simp [*, errW_none, errW_some] <;> rfl), by repeat (first | (with_reducible first | exact HB.out | apply below_alloc | apply pw_below_drewN | apply below_drew1 | refine below_set ?_ GE785.out | refine below_set ?_ GE786.out) | exact HB.out)⟩
      rw [if_neg c79] at H
      have c79b0 : (a3.toList == ([] : List UInt8)) = false := beq_eq_false_iff_ne.mpr c79
      try (have c79b9 : a3.toList.isEmpty = false := by rw [List.isEmpty_eq_false_iff]; exact beq_eq_false_iff_ne.mp c79b0)
      have c79b1 : (a3.toList != ([] : List UInt8)) = true := bne_iff_ne.mpr c79
      by_cases c82 : t790.size + a3.size ≤ 9223372036854775807
      ·rw [if_pos c82] at H
       have c82b0 := eq_true c82
       have c82b1 : decide (t790.size + a3.size ≤ 9223372036854775807) = true := decide_eq_true c82
       try have c82b2 : (9223372036854775807 < t790.size + a3.size) = False := eq_false (Nat.not_lt.2 c82)
       replace H := Option.bind_eq_some_iff.mp H
       obtain ⟨⟨t829, t830, t831, t832, t833, t834, t835, t836, t837, t838, t839, t840, t841, t842, t843, t844, t845, t846, t849⟩, A830, H⟩ := H
       replace H : (if t792.size + a3.size ≤ 9223372036854775807 then ((wire_DecodeReply.f kj58 (t792 ++ a3)).bind fun bt851 => (if t791 = 0 then (if t849 = 2 then (if t793 = 0 then (if bt851.2.2.2.2.2.2 = 2 then ((headgatelaw18_awake.f kj58).bind fun t863 => (some t863)) else (some false)) else ((headgatelaw18_awake.f kj58).bind fun t864 => (some t864))) else (some false)) else (if t793 = 0 then (if bt851.2.2.2.2.2.2 = 2 then ((headgatelaw18_awake.f kj58).bind fun t865 => (some t865)) else (some false)) else ((headgatelaw18_awake.f kj58).bind fun t866 => (some t866))))) else (none)) = some r := H
       have A83 := Aside0.mk A830
       clear A830
       by_cases c84 : t792.size + a3.size ≤ 9223372036854775807
       ·rw [if_pos c84] at H
        have c84b0 := eq_true c84
        have c84b1 : decide (t792.size + a3.size ≤ 9223372036854775807) = true := decide_eq_true c84
        try have c84b2 : (9223372036854775807 < t792.size + a3.size) = False := eq_false (Nat.not_lt.2 c84)
        replace H := Option.bind_eq_some_iff.mp H
        obtain ⟨⟨t851, t852, t853, t854, t855, t858, t861⟩, A850, H⟩ := H
        replace H : (if t791 = 0 then (if t849 = 2 then (if t793 = 0 then (if t861 = 2 then ((headgatelaw18_awake.f kj58).bind fun t863 => (some t863)) else (some false)) else ((headgatelaw18_awake.f kj58).bind fun t864 => (some t864))) else (some false)) else (if t793 = 0 then (if t861 = 2 then ((headgatelaw18_awake.f kj58).bind fun t865 => (some t865)) else (some false)) else ((headgatelaw18_awake.f kj58).bind fun t866 => (some t866)))) = some r := H
        have A85 := Aside0.mk A850
        clear A850
        by_cases c86 : t791 = 0
        ·rw [if_pos c86] at H
         have c86b0 : (t791 == 0) = true := beq_iff_eq.mpr c86
         have c86b1 : (t791 != 0) = false := bne_eq_false_iff_eq.mpr c86
         clear c86
         by_cases c87 : t849 = 2
         ·rw [if_pos c87] at H
          have c87b0 : (t849 == 2) = true := beq_iff_eq.mpr c87
          have c87b1 : (t849 != 2) = false := bne_eq_false_iff_eq.mpr c87
          clear c87
          by_cases c88 : t793 = 0
          ·rw [if_pos c88] at H
           have c88b0 : (t793 == 0) = true := beq_iff_eq.mpr c88
           have c88b1 : (t793 != 0) = false := bne_eq_false_iff_eq.mpr c88
           clear c88
           by_cases c89 : t861 = 2
           ·rw [if_pos c89] at H
            have c89b0 : (t861 == 2) = true := beq_iff_eq.mpr c89
            have c89b1 : (t861 != 2) = false := bne_eq_false_iff_eq.mpr c89
            clear c89
            replace H := Option.bind_eq_some_iff.mp H
            obtain ⟨t863, A900, H⟩ := H
            replace H : (some t863) = some r := H
            have A90 := Aside0.mk A900
            clear A900
            obtain rfl := Option.some.inj H
            go_wp2_with (first | ((with_reducible refine gate_callee (f := 18) rfl ?_); refine goesL_ (some 95) rfl rfl Try.func18 (by kernel_rfl) rfl #[.string (t790 ++ a3)] rfl Zz.g ?_; (with_reducible refine (wire_DecodeAsk.calls kj58 (t790 ++ a3) t829 t830 t831 t832 t833 t834 t835 t836 t837 t838 t839 t840 t841 t842 t843 t844 t845 t846 t849 _ A83.out).mono ?_); rintro e w91 ⟨v847, rfl, ho0, hb⟩; refine ⟨_, rfl, ?_⟩; have HO848 := Aside0.mk (Kd.R_lower ho0 (below_size (Zz.i HB.out))); replace BK785 := Aside0.mk (Zz.bb BK785.out hb); replace BK786 := Aside0.mk (Zz.bb BK786.out hb); replace HB := Aside0.mk (below_step (Zz.i HB.out) hb); (try clear hb); (try clear ho0)) | ((with_reducible refine gate_dst (N := 17) rfl ?_); (try (refine gate_guard (by rfl) ?_; dsimp only)); refine box_event ?hg (N := 17) ?hd (cs := #[.int .i64 0, .int .i64 0, .int .i64 0, .int .i64 0, .int .i64 0, .int .i64 0, .int .i64 0, .int .i64 0, .int .i64 0, .int .i64 0, .int .i64 0, .int .i64 0, .bool false, .int .i64 0, .int .i64 0, .int .i64 0, .int .i64 0, .slice none 0 0]) (t := 43) ?hr ?_; (case hd => rfl); (case hg => rfl); (case hr => first | (go_simp; done) | (go_simp; rfl)); intro gb850 hg w92 hbox hb; replace HO848 := Aside0.mk (Kd.R_below (Zz.r HO848.out) hb); have BK850 := Aside0.mk (hbox); have GW850 := Aside0.mk (Zz.ge hg HB.out); have GE850 := Aside0.mk (Zz.ge hg HB.out); replace HB := Aside0.mk (below_step (Zz.i HB.out) hb); have NB785_850 := Aside0.mk (Zz.nl hg BK785.out); have NB850_785 := Aside0.mk (Zz.ng hg BK785.out); replace BK785 := Aside0.mk (Zz.bb BK785.out hb); have NB786_850 := Aside0.mk (Zz.nl hg BK786.out); have NB850_786 := Aside0.mk (Zz.ng hg BK786.out); replace BK786 := Aside0.mk (Zz.bb BK786.out hb); clear hb hbox hg; have hnb93 := NB850_785.out; have hnc93 := NB785_850.out; have hnb94 := NB850_786.out; have hnc94 := NB786_850.out; have hcz95 := Zz.c18 BK850.out; have hfz95 := blk_frozen BK850.out; obtain ⟨Ao96, co96, eo96⟩ := Kd.R_slice HO848.out; subst eo96) | ((with_reducible refine gate_callee (f := 12) rfl ?_); refine goesL_ (some 102) rfl rfl Try.func12 (by kernel_rfl) rfl #[.string (t792 ++ a3)] rfl Zz.g ?_; (with_reducible refine (wire_DecodeReply.calls kj58 (t792 ++ a3) t851 t852 t853 t854 t855 t858 t861 _ A85.out).mono ?_); rintro e w97 ⟨v856, v859, rfl, ho0, ho1, hb⟩; refine ⟨_, rfl, ?_⟩; have n0_ := Aside0.mk (Kd.R_below (by (with_reducible repeat (first | apply Kd.R_alloc | apply Kd.R_drewN | apply Kd.R_drew)); exact (Kd.R_mono (Zz.f18 (Kd.R_types HO848.out BK850.out (by decide)) (fun _ hk => hk.2)) (fun _ h_ => h_.1))) hb); have n1_ := Aside0.mk (Kd.R_lower ho0 (below_size (Zz.i HB.out))); have n2_ := Aside0.mk (Kd.R_lower ho1 (below_size (Zz.i HB.out))); have n3_ := Aside0.mk (blk_below (g := gb785) (o := .cells #[.int .i64 a0_0, .int .i64 a0_1, .int .i64 a0_2, .int .i64 a0_3, .int .i64 a0_4, .int .i64 a0_5, .int .i64 a0_6, .int .i64 a0_7, .int .i64 a0_8, .int .i64 a0_9, .int .i64 a0_10, .int .i64 a0_11, .bool a0_12, .int .i64 a0_13, .int .i64 a0_14, .int .i64 a0_15, .int .i64 a0_16, .slice A0_17 l0_17.length c0_17] 43 (0, 0)) (by exact Zz.q18 BK785.out NB785_850.out) hb); have n4_ := Aside0.mk (blk_below (g := gb786) (o := .cells #[.int .i64 a1_0, .int .i64 a1_1, .int .i64 a1_2, .int .i64 a1_3, .slice A1_4 l1_4.length c1_4, .slice A1_5 l1_5.length c1_5] 26 (0, 0)) (by exact Zz.q18 BK786.out NB786_850.out) hb); have n5_ := Aside0.mk (blk_below (g := gb850) (o := .cells #[.int .i64 t829, .int .i64 t830, .int .i64 t831, .int .i64 t832, .int .i64 t833, .int .i64 t834, .int .i64 t835, .int .i64 t836, .int .i64 t837, .int .i64 t838, .int .i64 t839, .int .i64 t840, .bool t841, .int .i64 t842, .int .i64 t843, .int .i64 t844, .int .i64 t845, .slice Ao96 t846.length co96] 43 (0, 0)) (by (with_reducible repeat (first | refine blk_drewN ?_ _ | refine blk_drew ?_ | refine blk_alloc ?_ _)); exact Zz.u18_0_17 BK850.out) hb); have n6_ := Aside0.mk (below_step (Zz.i HB.out) hb); clear HO848; clear BK785; clear BK786; clear BK850; clear HB; have HO848 := n0_; have HO857 := n1_; have HO860 := n2_; have BK785 := n3_; have BK786 := n4_; have BK850 := n5_; have HB := n6_; clear n0_ n1_ n2_ n3_ n4_ n5_ n6_; (try clear hb); (try clear hk); (try clear ho0); (try clear ho1)) | ((with_reducible refine gate_dst (N := 19) rfl ?_); (try (refine gate_guard (by rfl) ?_; dsimp only)); refine box_event ?hg (N := 19) ?hd (cs := #[.int .i64 0, .int .i64 0, .int .i64 0, .int .i64 0, .slice none 0 0, .slice none 0 0]) (t := 26) ?hr ?_; (case hd => rfl); (case hg => rfl); (case hr => first | (go_simp; done) | (go_simp; rfl)); intro gb862 hg w98 hbox hb; replace HO848 := Aside0.mk (Kd.R_below (Zz.r HO848.out) hb); replace HO857 := Aside0.mk (Kd.R_below (Zz.r HO857.out) hb); replace HO860 := Aside0.mk (Kd.R_below (Zz.r HO860.out) hb); have BK862 := Aside0.mk (hbox); have GW862 := Aside0.mk (Zz.ge hg HB.out); have GE862 := Aside0.mk (Zz.ge hg HB.out); replace HB := Aside0.mk (below_step (Zz.i HB.out) hb); have NB785_862 := Aside0.mk (Zz.nl hg BK785.out); have NB862_785 := Aside0.mk (Zz.ng hg BK785.out); replace BK785 := Aside0.mk (Zz.bb BK785.out hb); have NB786_862 := Aside0.mk (Zz.nl hg BK786.out); have NB862_786 := Aside0.mk (Zz.ng hg BK786.out); replace BK786 := Aside0.mk (Zz.bb BK786.out hb); have NB850_862 := Aside0.mk (Zz.nl hg BK850.out); have NB862_850 := Aside0.mk (Zz.ng hg BK850.out); replace BK850 := Aside0.mk (Zz.bb BK850.out hb); clear hb hbox hg; have hnb99 := NB862_785.out; have hnc99 := NB785_862.out; have hnb100 := NB862_786.out; have hnc100 := NB786_862.out; have hnb101 := NB862_850.out; have hnc101 := NB850_862.out; have hcz102 := Zz.c6 BK862.out; have hfz102 := blk_frozen BK862.out; obtain ⟨Ao103, co103, eo103⟩ := Kd.R_slice HO857.out; subst eo103; obtain ⟨Ao104, co104, eo104⟩ := Kd.R_slice HO860.out; subst eo104) | (go_at_call 9; (with_reducible refine (headgatelaw18_awake.calls kj58  t863 _ A90.out).mono ?_); rintro e w105 ⟨rfl, hb⟩; have n0_ := Aside0.mk (Kd.R_below (by (with_reducible repeat (first | apply Kd.R_alloc | apply Kd.R_drewN | apply Kd.R_drew)); exact (Kd.R_mono (Zz.f6 (Kd.R_types HO848.out BK862.out (by decide)) (fun _ hk => hk.2)) (fun _ h_ => h_.1))) hb); have n1_ := Aside0.mk (Kd.R_below (by (with_reducible repeat (first | apply Kd.R_alloc | apply Kd.R_drewN | apply Kd.R_drew)); exact (Kd.R_mono (Zz.f6 (Kd.R_types HO857.out BK862.out (by decide)) (fun _ hk => hk.2)) (fun _ h_ => h_.1))) hb); have n2_ := Aside0.mk (Kd.R_below (by (with_reducible repeat (first | apply Kd.R_alloc | apply Kd.R_drewN | apply Kd.R_drew)); exact (Kd.R_mono (Zz.f6 (Kd.R_types HO860.out BK862.out (by decide)) (fun _ hk => hk.2)) (fun _ h_ => h_.1))) hb); have n3_ := Aside0.mk (blk_below (g := gb785) (o := .cells #[.int .i64 a0_0, .int .i64 a0_1, .int .i64 a0_2, .int .i64 a0_3, .int .i64 a0_4, .int .i64 a0_5, .int .i64 a0_6, .int .i64 a0_7, .int .i64 a0_8, .int .i64 a0_9, .int .i64 a0_10, .int .i64 a0_11, .bool a0_12, .int .i64 a0_13, .int .i64 a0_14, .int .i64 a0_15, .int .i64 a0_16, .slice A0_17 l0_17.length c0_17] 43 (0, 0)) (by exact Zz.q6 BK785.out NB785_862.out) hb); have n4_ := Aside0.mk (blk_below (g := gb786) (o := .cells #[.int .i64 a1_0, .int .i64 a1_1, .int .i64 a1_2, .int .i64 a1_3, .slice A1_4 l1_4.length c1_4, .slice A1_5 l1_5.length c1_5] 26 (0, 0)) (by exact Zz.q6 BK786.out NB786_862.out) hb); have n5_ := Aside0.mk (blk_below (g := gb850) (o := .cells #[.int .i64 t829, .int .i64 t830, .int .i64 t831, .int .i64 t832, .int .i64 t833, .int .i64 t834, .int .i64 t835, .int .i64 t836, .int .i64 t837, .int .i64 t838, .int .i64 t839, .int .i64 t840, .bool t841, .int .i64 t842, .int .i64 t843, .int .i64 t844, .int .i64 t845, .slice Ao96 t846.length co96] 43 (0, 0)) (by exact Zz.q6 BK850.out NB850_862.out) hb); have n6_ := Aside0.mk (blk_below (g := gb862) (o := .cells #[.int .i64 t851, .int .i64 t852, .int .i64 t853, .int .i64 t854, .slice Ao103 t855.length co103, .slice Ao104 t858.length co104] 26 (0, 0)) (by (with_reducible repeat (first | refine blk_drewN ?_ _ | refine blk_drew ?_ | refine blk_alloc ?_ _)); exact Zz.u6_0_5 BK862.out) hb); have n7_ := Aside0.mk (below_step (Zz.i HB.out) hb); clear HO848; clear HO857; clear HO860; clear BK785; clear BK786; clear BK850; clear BK862; clear HB; have HO848 := n0_; have HO857 := n1_; have HO860 := n2_; have BK785 := n3_; have BK786 := n4_; have BK850 := n5_; have BK862 := n6_; have HB := n7_; clear n0_ n1_ n2_ n3_ n4_ n5_ n6_ n7_; (try clear hb); (try clear hk)))
            go_ret
            exact ⟨by first | rfl | (simp [errW_none, errW_some] <;> rfl) | (simp [*, errW_none, errW_some] <;> rfl), by repeat (first | (with_reducible first | exact HB.out | apply below_alloc | apply pw_below_drewN | apply below_drew1 | refine below_set ?_ GE785.out | refine below_set ?_ GE786.out | refine below_set ?_ GE850.out | refine below_set ?_ GE862.out) | exact HB.out)⟩
           rw [if_neg c89] at H
           have c89b0 : (t861 == 2) = false := beq_eq_false_iff_ne.mpr c89
           have c89b1 : (t861 != 2) = true := bne_iff_ne.mpr c89
           obtain rfl := Option.some.inj H
           go_wp2_with (first | ((with_reducible refine gate_callee (f := 18) rfl ?_); refine goesL_ (some 95) rfl rfl Try.func18 (by kernel_rfl) rfl #[.string (t790 ++ a3)] rfl Zz.g ?_; (with_reducible refine (wire_DecodeAsk.calls kj58 (t790 ++ a3) t829 t830 t831 t832 t833 t834 t835 t836 t837 t838 t839 t840 t841 t842 t843 t844 t845 t846 t849 _ A83.out).mono ?_); rintro e w106 ⟨v847, rfl, ho0, hb⟩; refine ⟨_, rfl, ?_⟩; have HO848 := Aside0.mk (Kd.R_lower ho0 (below_size (Zz.i HB.out))); replace BK785 := Aside0.mk (Zz.bb BK785.out hb); replace BK786 := Aside0.mk (Zz.bb BK786.out hb); replace HB := Aside0.mk (below_step (Zz.i HB.out) hb); (try clear hb); (try clear ho0)) | ((with_reducible refine gate_dst (N := 17) rfl ?_); (try (refine gate_guard (by rfl) ?_; dsimp only)); refine box_event ?hg (N := 17) ?hd (cs := #[.int .i64 0, .int .i64 0, .int .i64 0, .int .i64 0, .int .i64 0, .int .i64 0, .int .i64 0, .int .i64 0, .int .i64 0, .int .i64 0, .int .i64 0, .int .i64 0, .bool false, .int .i64 0, .int .i64 0, .int .i64 0, .int .i64 0, .slice none 0 0]) (t := 43) ?hr ?_; (case hd => rfl); (case hg => rfl); (case hr => first | (go_simp; done) | (go_simp; rfl)); intro gb850 hg w107 hbox hb; replace HO848 := Aside0.mk (Kd.R_below (Zz.r HO848.out) hb); have BK850 := Aside0.mk (hbox); have GW850 := Aside0.mk (Zz.ge hg HB.out); have GE850 := Aside0.mk (Zz.ge hg HB.out); replace HB := Aside0.mk (below_step (Zz.i HB.out) hb); have NB785_850 := Aside0.mk (Zz.nl hg BK785.out); have NB850_785 := Aside0.mk (Zz.ng hg BK785.out); replace BK785 := Aside0.mk (Zz.bb BK785.out hb); have NB786_850 := Aside0.mk (Zz.nl hg BK786.out); have NB850_786 := Aside0.mk (Zz.ng hg BK786.out); replace BK786 := Aside0.mk (Zz.bb BK786.out hb); clear hb hbox hg; have hnb108 := NB850_785.out; have hnc108 := NB785_850.out; have hnb109 := NB850_786.out; have hnc109 := NB786_850.out; have hcz110 := Zz.c18 BK850.out; have hfz110 := blk_frozen BK850.out; obtain ⟨Ao111, co111, eo111⟩ := Kd.R_slice HO848.out; subst eo111) | ((with_reducible refine gate_callee (f := 12) rfl ?_); refine goesL_ (some 102) rfl rfl Try.func12 (by kernel_rfl) rfl #[.string (t792 ++ a3)] rfl Zz.g ?_; (with_reducible refine (wire_DecodeReply.calls kj58 (t792 ++ a3) t851 t852 t853 t854 t855 t858 t861 _ A85.out).mono ?_); rintro e w112 ⟨v856, v859, rfl, ho0, ho1, hb⟩; refine ⟨_, rfl, ?_⟩; have n0_ := Aside0.mk (Kd.R_below (by (with_reducible repeat (first | apply Kd.R_alloc | apply Kd.R_drewN | apply Kd.R_drew)); exact (Kd.R_mono (Zz.f18 (Kd.R_types HO848.out BK850.out (by decide)) (fun _ hk => hk.2)) (fun _ h_ => h_.1))) hb); have n1_ := Aside0.mk (Kd.R_lower ho0 (below_size (Zz.i HB.out))); have n2_ := Aside0.mk (Kd.R_lower ho1 (below_size (Zz.i HB.out))); have n3_ := Aside0.mk (blk_below (g := gb785) (o := .cells #[.int .i64 a0_0, .int .i64 a0_1, .int .i64 a0_2, .int .i64 a0_3, .int .i64 a0_4, .int .i64 a0_5, .int .i64 a0_6, .int .i64 a0_7, .int .i64 a0_8, .int .i64 a0_9, .int .i64 a0_10, .int .i64 a0_11, .bool a0_12, .int .i64 a0_13, .int .i64 a0_14, .int .i64 a0_15, .int .i64 a0_16, .slice A0_17 l0_17.length c0_17] 43 (0, 0)) (by exact Zz.q18 BK785.out NB785_850.out) hb); have n4_ := Aside0.mk (blk_below (g := gb786) (o := .cells #[.int .i64 a1_0, .int .i64 a1_1, .int .i64 a1_2, .int .i64 a1_3, .slice A1_4 l1_4.length c1_4, .slice A1_5 l1_5.length c1_5] 26 (0, 0)) (by exact Zz.q18 BK786.out NB786_850.out) hb); have n5_ := Aside0.mk (blk_below (g := gb850) (o := .cells #[.int .i64 t829, .int .i64 t830, .int .i64 t831, .int .i64 t832, .int .i64 t833, .int .i64 t834, .int .i64 t835, .int .i64 t836, .int .i64 t837, .int .i64 t838, .int .i64 t839, .int .i64 t840, .bool t841, .int .i64 t842, .int .i64 t843, .int .i64 t844, .int .i64 t845, .slice Ao111 t846.length co111] 43 (0, 0)) (by (with_reducible repeat (first | refine blk_drewN ?_ _ | refine blk_drew ?_ | refine blk_alloc ?_ _)); exact Zz.u18_0_17 BK850.out) hb); have n6_ := Aside0.mk (below_step (Zz.i HB.out) hb); clear HO848; clear BK785; clear BK786; clear BK850; clear HB; have HO848 := n0_; have HO857 := n1_; have HO860 := n2_; have BK785 := n3_; have BK786 := n4_; have BK850 := n5_; have HB := n6_; clear n0_ n1_ n2_ n3_ n4_ n5_ n6_; (try clear hb); (try clear hk); (try clear ho0); (try clear ho1)) | ((with_reducible refine gate_dst (N := 19) rfl ?_); (try (refine gate_guard (by rfl) ?_; dsimp only)); refine box_event ?hg (N := 19) ?hd (cs := #[.int .i64 0, .int .i64 0, .int .i64 0, .int .i64 0, .slice none 0 0, .slice none 0 0]) (t := 26) ?hr ?_; (case hd => rfl); (case hg => rfl); (case hr => first | (go_simp; done) | (go_simp; rfl)); intro gb862 hg w113 hbox hb; replace HO848 := Aside0.mk (Kd.R_below (Zz.r HO848.out) hb); replace HO857 := Aside0.mk (Kd.R_below (Zz.r HO857.out) hb); replace HO860 := Aside0.mk (Kd.R_below (Zz.r HO860.out) hb); have BK862 := Aside0.mk (hbox); have GW862 := Aside0.mk (Zz.ge hg HB.out); have GE862 := Aside0.mk (Zz.ge hg HB.out); replace HB := Aside0.mk (below_step (Zz.i HB.out) hb); have NB785_862 := Aside0.mk (Zz.nl hg BK785.out); have NB862_785 := Aside0.mk (Zz.ng hg BK785.out); replace BK785 := Aside0.mk (Zz.bb BK785.out hb); have NB786_862 := Aside0.mk (Zz.nl hg BK786.out); have NB862_786 := Aside0.mk (Zz.ng hg BK786.out); replace BK786 := Aside0.mk (Zz.bb BK786.out hb); have NB850_862 := Aside0.mk (Zz.nl hg BK850.out); have NB862_850 := Aside0.mk (Zz.ng hg BK850.out); replace BK850 := Aside0.mk (Zz.bb BK850.out hb); clear hb hbox hg; have hnb114 := NB862_785.out; have hnc114 := NB785_862.out; have hnb115 := NB862_786.out; have hnc115 := NB786_862.out; have hnb116 := NB862_850.out; have hnc116 := NB850_862.out; have hcz117 := Zz.c6 BK862.out; have hfz117 := blk_frozen BK862.out; obtain ⟨Ao118, co118, eo118⟩ := Kd.R_slice HO857.out; subst eo118; obtain ⟨Ao119, co119, eo119⟩ := Kd.R_slice HO860.out; subst eo119))
           go_ret
           exact ⟨by first | rfl | (simp [errW_none, errW_some] <;> rfl) | (simp [*, errW_none, errW_some] <;> rfl), by repeat (first | (with_reducible first | exact HB.out | apply below_alloc | apply pw_below_drewN | apply below_drew1 | refine below_set ?_ GE785.out | refine below_set ?_ GE786.out | refine below_set ?_ GE850.out | refine below_set ?_ GE862.out) | exact HB.out)⟩
          rw [if_neg c88] at H
          have c88b0 : (t793 == 0) = false := beq_eq_false_iff_ne.mpr c88
          have c88b1 : (t793 != 0) = true := bne_iff_ne.mpr c88
          replace H := Option.bind_eq_some_iff.mp H
          obtain ⟨t864, A1200, H⟩ := H
          replace H : (some t864) = some r := H
          have A120 := Aside0.mk A1200
          clear A1200
          obtain rfl := Option.some.inj H
          go_wp2_with (first | ((with_reducible refine gate_callee (f := 18) rfl ?_); refine goesL_ (some 95) rfl rfl Try.func18 (by kernel_rfl) rfl #[.string (t790 ++ a3)] rfl Zz.g ?_; (with_reducible refine (wire_DecodeAsk.calls kj58 (t790 ++ a3) t829 t830 t831 t832 t833 t834 t835 t836 t837 t838 t839 t840 t841 t842 t843 t844 t845 t846 t849 _ A83.out).mono ?_); rintro e w121 ⟨v847, rfl, ho0, hb⟩; refine ⟨_, rfl, ?_⟩; have HO848 := Aside0.mk (Kd.R_lower ho0 (below_size (Zz.i HB.out))); replace BK785 := Aside0.mk (Zz.bb BK785.out hb); replace BK786 := Aside0.mk (Zz.bb BK786.out hb); replace HB := Aside0.mk (below_step (Zz.i HB.out) hb); (try clear hb); (try clear ho0)) | ((with_reducible refine gate_dst (N := 17) rfl ?_); (try (refine gate_guard (by rfl) ?_; dsimp only)); refine box_event ?hg (N := 17) ?hd (cs := #[.int .i64 0, .int .i64 0, .int .i64 0, .int .i64 0, .int .i64 0, .int .i64 0, .int .i64 0, .int .i64 0, .int .i64 0, .int .i64 0, .int .i64 0, .int .i64 0, .bool false, .int .i64 0, .int .i64 0, .int .i64 0, .int .i64 0, .slice none 0 0]) (t := 43) ?hr ?_; (case hd => rfl); (case hg => rfl); (case hr => first | (go_simp; done) | (go_simp; rfl)); intro gb850 hg w122 hbox hb; replace HO848 := Aside0.mk (Kd.R_below (Zz.r HO848.out) hb); have BK850 := Aside0.mk (hbox); have GW850 := Aside0.mk (Zz.ge hg HB.out); have GE850 := Aside0.mk (Zz.ge hg HB.out); replace HB := Aside0.mk (below_step (Zz.i HB.out) hb); have NB785_850 := Aside0.mk (Zz.nl hg BK785.out); have NB850_785 := Aside0.mk (Zz.ng hg BK785.out); replace BK785 := Aside0.mk (Zz.bb BK785.out hb); have NB786_850 := Aside0.mk (Zz.nl hg BK786.out); have NB850_786 := Aside0.mk (Zz.ng hg BK786.out); replace BK786 := Aside0.mk (Zz.bb BK786.out hb); clear hb hbox hg; have hnb123 := NB850_785.out; have hnc123 := NB785_850.out; have hnb124 := NB850_786.out; have hnc124 := NB786_850.out; have hcz125 := Zz.c18 BK850.out; have hfz125 := blk_frozen BK850.out; obtain ⟨Ao126, co126, eo126⟩ := Kd.R_slice HO848.out; subst eo126) | ((with_reducible refine gate_callee (f := 12) rfl ?_); refine goesL_ (some 102) rfl rfl Try.func12 (by kernel_rfl) rfl #[.string (t792 ++ a3)] rfl Zz.g ?_; (with_reducible refine (wire_DecodeReply.calls kj58 (t792 ++ a3) t851 t852 t853 t854 t855 t858 t861 _ A85.out).mono ?_); rintro e w127 ⟨v856, v859, rfl, ho0, ho1, hb⟩; refine ⟨_, rfl, ?_⟩; have n0_ := Aside0.mk (Kd.R_below (by (with_reducible repeat (first | apply Kd.R_alloc | apply Kd.R_drewN | apply Kd.R_drew)); exact (Kd.R_mono (Zz.f18 (Kd.R_types HO848.out BK850.out (by decide)) (fun _ hk => hk.2)) (fun _ h_ => h_.1))) hb); have n1_ := Aside0.mk (Kd.R_lower ho0 (below_size (Zz.i HB.out))); have n2_ := Aside0.mk (Kd.R_lower ho1 (below_size (Zz.i HB.out))); have n3_ := Aside0.mk (blk_below (g := gb785) (o := .cells #[.int .i64 a0_0, .int .i64 a0_1, .int .i64 a0_2, .int .i64 a0_3, .int .i64 a0_4, .int .i64 a0_5, .int .i64 a0_6, .int .i64 a0_7, .int .i64 a0_8, .int .i64 a0_9, .int .i64 a0_10, .int .i64 a0_11, .bool a0_12, .int .i64 a0_13, .int .i64 a0_14, .int .i64 a0_15, .int .i64 a0_16, .slice A0_17 l0_17.length c0_17] 43 (0, 0)) (by exact Zz.q18 BK785.out NB785_850.out) hb); have n4_ := Aside0.mk (blk_below (g := gb786) (o := .cells #[.int .i64 a1_0, .int .i64 a1_1, .int .i64 a1_2, .int .i64 a1_3, .slice A1_4 l1_4.length c1_4, .slice A1_5 l1_5.length c1_5] 26 (0, 0)) (by exact Zz.q18 BK786.out NB786_850.out) hb); have n5_ := Aside0.mk (blk_below (g := gb850) (o := .cells #[.int .i64 t829, .int .i64 t830, .int .i64 t831, .int .i64 t832, .int .i64 t833, .int .i64 t834, .int .i64 t835, .int .i64 t836, .int .i64 t837, .int .i64 t838, .int .i64 t839, .int .i64 t840, .bool t841, .int .i64 t842, .int .i64 t843, .int .i64 t844, .int .i64 t845, .slice Ao126 t846.length co126] 43 (0, 0)) (by (with_reducible repeat (first | refine blk_drewN ?_ _ | refine blk_drew ?_ | refine blk_alloc ?_ _)); exact Zz.u18_0_17 BK850.out) hb); have n6_ := Aside0.mk (below_step (Zz.i HB.out) hb); clear HO848; clear BK785; clear BK786; clear BK850; clear HB; have HO848 := n0_; have HO857 := n1_; have HO860 := n2_; have BK785 := n3_; have BK786 := n4_; have BK850 := n5_; have HB := n6_; clear n0_ n1_ n2_ n3_ n4_ n5_ n6_; (try clear hb); (try clear hk); (try clear ho0); (try clear ho1)) | ((with_reducible refine gate_dst (N := 19) rfl ?_); (try (refine gate_guard (by rfl) ?_; dsimp only)); refine box_event ?hg (N := 19) ?hd (cs := #[.int .i64 0, .int .i64 0, .int .i64 0, .int .i64 0, .slice none 0 0, .slice none 0 0]) (t := 26) ?hr ?_; (case hd => rfl); (case hg => rfl); (case hr => first | (go_simp; done) | (go_simp; rfl)); intro gb862 hg w128 hbox hb; replace HO848 := Aside0.mk (Kd.R_below (Zz.r HO848.out) hb); replace HO857 := Aside0.mk (Kd.R_below (Zz.r HO857.out) hb); replace HO860 := Aside0.mk (Kd.R_below (Zz.r HO860.out) hb); have BK862 := Aside0.mk (hbox); have GW862 := Aside0.mk (Zz.ge hg HB.out); have GE862 := Aside0.mk (Zz.ge hg HB.out); replace HB := Aside0.mk (below_step (Zz.i HB.out) hb); have NB785_862 := Aside0.mk (Zz.nl hg BK785.out); have NB862_785 := Aside0.mk (Zz.ng hg BK785.out); replace BK785 := Aside0.mk (Zz.bb BK785.out hb); have NB786_862 := Aside0.mk (Zz.nl hg BK786.out); have NB862_786 := Aside0.mk (Zz.ng hg BK786.out); replace BK786 := Aside0.mk (Zz.bb BK786.out hb); have NB850_862 := Aside0.mk (Zz.nl hg BK850.out); have NB862_850 := Aside0.mk (Zz.ng hg BK850.out); replace BK850 := Aside0.mk (Zz.bb BK850.out hb); clear hb hbox hg; have hnb129 := NB862_785.out; have hnc129 := NB785_862.out; have hnb130 := NB862_786.out; have hnc130 := NB786_862.out; have hnb131 := NB862_850.out; have hnc131 := NB850_862.out; have hcz132 := Zz.c6 BK862.out; have hfz132 := blk_frozen BK862.out; obtain ⟨Ao133, co133, eo133⟩ := Kd.R_slice HO857.out; subst eo133; obtain ⟨Ao134, co134, eo134⟩ := Kd.R_slice HO860.out; subst eo134) | (go_at_call 9; (with_reducible refine (headgatelaw18_awake.calls kj58  t864 _ A120.out).mono ?_); rintro e w135 ⟨rfl, hb⟩; have n0_ := Aside0.mk (Kd.R_below (by (with_reducible repeat (first | apply Kd.R_alloc | apply Kd.R_drewN | apply Kd.R_drew)); exact (Kd.R_mono (Zz.f6 (Kd.R_types HO848.out BK862.out (by decide)) (fun _ hk => hk.2)) (fun _ h_ => h_.1))) hb); have n1_ := Aside0.mk (Kd.R_below (by (with_reducible repeat (first | apply Kd.R_alloc | apply Kd.R_drewN | apply Kd.R_drew)); exact (Kd.R_mono (Zz.f6 (Kd.R_types HO857.out BK862.out (by decide)) (fun _ hk => hk.2)) (fun _ h_ => h_.1))) hb); have n2_ := Aside0.mk (Kd.R_below (by (with_reducible repeat (first | apply Kd.R_alloc | apply Kd.R_drewN | apply Kd.R_drew)); exact (Kd.R_mono (Zz.f6 (Kd.R_types HO860.out BK862.out (by decide)) (fun _ hk => hk.2)) (fun _ h_ => h_.1))) hb); have n3_ := Aside0.mk (blk_below (g := gb785) (o := .cells #[.int .i64 a0_0, .int .i64 a0_1, .int .i64 a0_2, .int .i64 a0_3, .int .i64 a0_4, .int .i64 a0_5, .int .i64 a0_6, .int .i64 a0_7, .int .i64 a0_8, .int .i64 a0_9, .int .i64 a0_10, .int .i64 a0_11, .bool a0_12, .int .i64 a0_13, .int .i64 a0_14, .int .i64 a0_15, .int .i64 a0_16, .slice A0_17 l0_17.length c0_17] 43 (0, 0)) (by exact Zz.q6 BK785.out NB785_862.out) hb); have n4_ := Aside0.mk (blk_below (g := gb786) (o := .cells #[.int .i64 a1_0, .int .i64 a1_1, .int .i64 a1_2, .int .i64 a1_3, .slice A1_4 l1_4.length c1_4, .slice A1_5 l1_5.length c1_5] 26 (0, 0)) (by exact Zz.q6 BK786.out NB786_862.out) hb); have n5_ := Aside0.mk (blk_below (g := gb850) (o := .cells #[.int .i64 t829, .int .i64 t830, .int .i64 t831, .int .i64 t832, .int .i64 t833, .int .i64 t834, .int .i64 t835, .int .i64 t836, .int .i64 t837, .int .i64 t838, .int .i64 t839, .int .i64 t840, .bool t841, .int .i64 t842, .int .i64 t843, .int .i64 t844, .int .i64 t845, .slice Ao126 t846.length co126] 43 (0, 0)) (by exact Zz.q6 BK850.out NB850_862.out) hb); have n6_ := Aside0.mk (blk_below (g := gb862) (o := .cells #[.int .i64 t851, .int .i64 t852, .int .i64 t853, .int .i64 t854, .slice Ao133 t855.length co133, .slice Ao134 t858.length co134] 26 (0, 0)) (by (with_reducible repeat (first | refine blk_drewN ?_ _ | refine blk_drew ?_ | refine blk_alloc ?_ _)); exact Zz.u6_0_5 BK862.out) hb); have n7_ := Aside0.mk (below_step (Zz.i HB.out) hb); clear HO848; clear HO857; clear HO860; clear BK785; clear BK786; clear BK850; clear BK862; clear HB; have HO848 := n0_; have HO857 := n1_; have HO860 := n2_; have BK785 := n3_; have BK786 := n4_; have BK850 := n5_; have BK862 := n6_; have HB := n7_; clear n0_ n1_ n2_ n3_ n4_ n5_ n6_ n7_; (try clear hb); (try clear hk)))
          go_ret
          exact ⟨by first | rfl | (simp [errW_none, errW_some] <;> rfl) | (simp [*, errW_none, errW_some] <;> rfl), by repeat (first | (with_reducible first | exact HB.out | apply below_alloc | apply pw_below_drewN | apply below_drew1 | refine below_set ?_ GE785.out | refine below_set ?_ GE786.out | refine below_set ?_ GE850.out | refine below_set ?_ GE862.out) | exact HB.out)⟩
         rw [if_neg c87] at H
         have c87b0 : (t849 == 2) = false := beq_eq_false_iff_ne.mpr c87
         have c87b1 : (t849 != 2) = true := bne_iff_ne.mpr c87
         obtain rfl := Option.some.inj H
         go_wp2_with (first | ((with_reducible refine gate_callee (f := 18) rfl ?_); refine goesL_ (some 95) rfl rfl Try.func18 (by kernel_rfl) rfl #[.string (t790 ++ a3)] rfl Zz.g ?_; (with_reducible refine (wire_DecodeAsk.calls kj58 (t790 ++ a3) t829 t830 t831 t832 t833 t834 t835 t836 t837 t838 t839 t840 t841 t842 t843 t844 t845 t846 t849 _ A83.out).mono ?_); rintro e w136 ⟨v847, rfl, ho0, hb⟩; refine ⟨_, rfl, ?_⟩; have HO848 := Aside0.mk (Kd.R_lower ho0 (below_size (Zz.i HB.out))); replace BK785 := Aside0.mk (Zz.bb BK785.out hb); replace BK786 := Aside0.mk (Zz.bb BK786.out hb); replace HB := Aside0.mk (below_step (Zz.i HB.out) hb); (try clear hb); (try clear ho0)) | ((with_reducible refine gate_dst (N := 17) rfl ?_); (try (refine gate_guard (by rfl) ?_; dsimp only)); refine box_event ?hg (N := 17) ?hd (cs := #[.int .i64 0, .int .i64 0, .int .i64 0, .int .i64 0, .int .i64 0, .int .i64 0, .int .i64 0, .int .i64 0, .int .i64 0, .int .i64 0, .int .i64 0, .int .i64 0, .bool false, .int .i64 0, .int .i64 0, .int .i64 0, .int .i64 0, .slice none 0 0]) (t := 43) ?hr ?_; (case hd => rfl); (case hg => rfl); (case hr => first | (go_simp; done) | (go_simp; rfl)); intro gb850 hg w137 hbox hb; replace HO848 := Aside0.mk (Kd.R_below (Zz.r HO848.out) hb); have BK850 := Aside0.mk (hbox); have GW850 := Aside0.mk (Zz.ge hg HB.out); have GE850 := Aside0.mk (Zz.ge hg HB.out); replace HB := Aside0.mk (below_step (Zz.i HB.out) hb); have NB785_850 := Aside0.mk (Zz.nl hg BK785.out); have NB850_785 := Aside0.mk (Zz.ng hg BK785.out); replace BK785 := Aside0.mk (Zz.bb BK785.out hb); have NB786_850 := Aside0.mk (Zz.nl hg BK786.out); have NB850_786 := Aside0.mk (Zz.ng hg BK786.out); replace BK786 := Aside0.mk (Zz.bb BK786.out hb); clear hb hbox hg; have hnb138 := NB850_785.out; have hnc138 := NB785_850.out; have hnb139 := NB850_786.out; have hnc139 := NB786_850.out; have hcz140 := Zz.c18 BK850.out; have hfz140 := blk_frozen BK850.out; obtain ⟨Ao141, co141, eo141⟩ := Kd.R_slice HO848.out; subst eo141) | ((with_reducible refine gate_callee (f := 12) rfl ?_); refine goesL_ (some 102) rfl rfl Try.func12 (by kernel_rfl) rfl #[.string (t792 ++ a3)] rfl Zz.g ?_; (with_reducible refine (wire_DecodeReply.calls kj58 (t792 ++ a3) t851 t852 t853 t854 t855 t858 t861 _ A85.out).mono ?_); rintro e w142 ⟨v856, v859, rfl, ho0, ho1, hb⟩; refine ⟨_, rfl, ?_⟩; have n0_ := Aside0.mk (Kd.R_below (by (with_reducible repeat (first | apply Kd.R_alloc | apply Kd.R_drewN | apply Kd.R_drew)); exact (Kd.R_mono (Zz.f18 (Kd.R_types HO848.out BK850.out (by decide)) (fun _ hk => hk.2)) (fun _ h_ => h_.1))) hb); have n1_ := Aside0.mk (Kd.R_lower ho0 (below_size (Zz.i HB.out))); have n2_ := Aside0.mk (Kd.R_lower ho1 (below_size (Zz.i HB.out))); have n3_ := Aside0.mk (blk_below (g := gb785) (o := .cells #[.int .i64 a0_0, .int .i64 a0_1, .int .i64 a0_2, .int .i64 a0_3, .int .i64 a0_4, .int .i64 a0_5, .int .i64 a0_6, .int .i64 a0_7, .int .i64 a0_8, .int .i64 a0_9, .int .i64 a0_10, .int .i64 a0_11, .bool a0_12, .int .i64 a0_13, .int .i64 a0_14, .int .i64 a0_15, .int .i64 a0_16, .slice A0_17 l0_17.length c0_17] 43 (0, 0)) (by exact Zz.q18 BK785.out NB785_850.out) hb); have n4_ := Aside0.mk (blk_below (g := gb786) (o := .cells #[.int .i64 a1_0, .int .i64 a1_1, .int .i64 a1_2, .int .i64 a1_3, .slice A1_4 l1_4.length c1_4, .slice A1_5 l1_5.length c1_5] 26 (0, 0)) (by exact Zz.q18 BK786.out NB786_850.out) hb); have n5_ := Aside0.mk (blk_below (g := gb850) (o := .cells #[.int .i64 t829, .int .i64 t830, .int .i64 t831, .int .i64 t832, .int .i64 t833, .int .i64 t834, .int .i64 t835, .int .i64 t836, .int .i64 t837, .int .i64 t838, .int .i64 t839, .int .i64 t840, .bool t841, .int .i64 t842, .int .i64 t843, .int .i64 t844, .int .i64 t845, .slice Ao141 t846.length co141] 43 (0, 0)) (by (with_reducible repeat (first | refine blk_drewN ?_ _ | refine blk_drew ?_ | refine blk_alloc ?_ _)); exact Zz.u18_0_17 BK850.out) hb); have n6_ := Aside0.mk (below_step (Zz.i HB.out) hb); clear HO848; clear BK785; clear BK786; clear BK850; clear HB; have HO848 := n0_; have HO857 := n1_; have HO860 := n2_; have BK785 := n3_; have BK786 := n4_; have BK850 := n5_; have HB := n6_; clear n0_ n1_ n2_ n3_ n4_ n5_ n6_; (try clear hb); (try clear hk); (try clear ho0); (try clear ho1)) | ((with_reducible refine gate_dst (N := 19) rfl ?_); (try (refine gate_guard (by rfl) ?_; dsimp only)); refine box_event ?hg (N := 19) ?hd (cs := #[.int .i64 0, .int .i64 0, .int .i64 0, .int .i64 0, .slice none 0 0, .slice none 0 0]) (t := 26) ?hr ?_; (case hd => rfl); (case hg => rfl); (case hr => first | (go_simp; done) | (go_simp; rfl)); intro gb862 hg w143 hbox hb; replace HO848 := Aside0.mk (Kd.R_below (Zz.r HO848.out) hb); replace HO857 := Aside0.mk (Kd.R_below (Zz.r HO857.out) hb); replace HO860 := Aside0.mk (Kd.R_below (Zz.r HO860.out) hb); have BK862 := Aside0.mk (hbox); have GW862 := Aside0.mk (Zz.ge hg HB.out); have GE862 := Aside0.mk (Zz.ge hg HB.out); replace HB := Aside0.mk (below_step (Zz.i HB.out) hb); have NB785_862 := Aside0.mk (Zz.nl hg BK785.out); have NB862_785 := Aside0.mk (Zz.ng hg BK785.out); replace BK785 := Aside0.mk (Zz.bb BK785.out hb); have NB786_862 := Aside0.mk (Zz.nl hg BK786.out); have NB862_786 := Aside0.mk (Zz.ng hg BK786.out); replace BK786 := Aside0.mk (Zz.bb BK786.out hb); have NB850_862 := Aside0.mk (Zz.nl hg BK850.out); have NB862_850 := Aside0.mk (Zz.ng hg BK850.out); replace BK850 := Aside0.mk (Zz.bb BK850.out hb); clear hb hbox hg; have hnb144 := NB862_785.out; have hnc144 := NB785_862.out; have hnb145 := NB862_786.out; have hnc145 := NB786_862.out; have hnb146 := NB862_850.out; have hnc146 := NB850_862.out; have hcz147 := Zz.c6 BK862.out; have hfz147 := blk_frozen BK862.out; obtain ⟨Ao148, co148, eo148⟩ := Kd.R_slice HO857.out; subst eo148; obtain ⟨Ao149, co149, eo149⟩ := Kd.R_slice HO860.out; subst eo149))
         go_ret
         exact ⟨by first | rfl | (simp [errW_none, errW_some] <;> rfl) | (simp [*, errW_none, errW_some] <;> rfl), by repeat (first | (with_reducible first | exact HB.out | apply below_alloc | apply pw_below_drewN | apply below_drew1 | refine below_set ?_ GE785.out | refine below_set ?_ GE786.out | refine below_set ?_ GE850.out | refine below_set ?_ GE862.out) | exact HB.out)⟩
        rw [if_neg c86] at H
        have c86b0 : (t791 == 0) = false := beq_eq_false_iff_ne.mpr c86
        have c86b1 : (t791 != 0) = true := bne_iff_ne.mpr c86
        by_cases c150 : t793 = 0
        ·rw [if_pos c150] at H
         have c150b0 : (t793 == 0) = true := beq_iff_eq.mpr c150
         have c150b1 : (t793 != 0) = false := bne_eq_false_iff_eq.mpr c150
         clear c150
         by_cases c151 : t861 = 2
         ·rw [if_pos c151] at H
          have c151b0 : (t861 == 2) = true := beq_iff_eq.mpr c151
          have c151b1 : (t861 != 2) = false := bne_eq_false_iff_eq.mpr c151
          clear c151
          replace H := Option.bind_eq_some_iff.mp H
          obtain ⟨t865, A1520, H⟩ := H
          replace H : (some t865) = some r := H
          have A152 := Aside0.mk A1520
          clear A1520
          obtain rfl := Option.some.inj H
          go_wp2_with (first | ((with_reducible refine gate_callee (f := 18) rfl ?_); refine goesL_ (some 95) rfl rfl Try.func18 (by kernel_rfl) rfl #[.string (t790 ++ a3)] rfl Zz.g ?_; (with_reducible refine (wire_DecodeAsk.calls kj58 (t790 ++ a3) t829 t830 t831 t832 t833 t834 t835 t836 t837 t838 t839 t840 t841 t842 t843 t844 t845 t846 t849 _ A83.out).mono ?_); rintro e w153 ⟨v847, rfl, ho0, hb⟩; refine ⟨_, rfl, ?_⟩; have HO848 := Aside0.mk (Kd.R_lower ho0 (below_size (Zz.i HB.out))); replace BK785 := Aside0.mk (Zz.bb BK785.out hb); replace BK786 := Aside0.mk (Zz.bb BK786.out hb); replace HB := Aside0.mk (below_step (Zz.i HB.out) hb); (try clear hb); (try clear ho0)) | ((with_reducible refine gate_dst (N := 17) rfl ?_); (try (refine gate_guard (by rfl) ?_; dsimp only)); refine box_event ?hg (N := 17) ?hd (cs := #[.int .i64 0, .int .i64 0, .int .i64 0, .int .i64 0, .int .i64 0, .int .i64 0, .int .i64 0, .int .i64 0, .int .i64 0, .int .i64 0, .int .i64 0, .int .i64 0, .bool false, .int .i64 0, .int .i64 0, .int .i64 0, .int .i64 0, .slice none 0 0]) (t := 43) ?hr ?_; (case hd => rfl); (case hg => rfl); (case hr => first | (go_simp; done) | (go_simp; rfl)); intro gb850 hg w154 hbox hb; replace HO848 := Aside0.mk (Kd.R_below (Zz.r HO848.out) hb); have BK850 := Aside0.mk (hbox); have GW850 := Aside0.mk (Zz.ge hg HB.out); have GE850 := Aside0.mk (Zz.ge hg HB.out); replace HB := Aside0.mk (below_step (Zz.i HB.out) hb); have NB785_850 := Aside0.mk (Zz.nl hg BK785.out); have NB850_785 := Aside0.mk (Zz.ng hg BK785.out); replace BK785 := Aside0.mk (Zz.bb BK785.out hb); have NB786_850 := Aside0.mk (Zz.nl hg BK786.out); have NB850_786 := Aside0.mk (Zz.ng hg BK786.out); replace BK786 := Aside0.mk (Zz.bb BK786.out hb); clear hb hbox hg; have hnb155 := NB850_785.out; have hnc155 := NB785_850.out; have hnb156 := NB850_786.out; have hnc156 := NB786_850.out; have hcz157 := Zz.c18 BK850.out; have hfz157 := blk_frozen BK850.out; obtain ⟨Ao158, co158, eo158⟩ := Kd.R_slice HO848.out; subst eo158) | ((with_reducible refine gate_callee (f := 12) rfl ?_); refine goesL_ (some 102) rfl rfl Try.func12 (by kernel_rfl) rfl #[.string (t792 ++ a3)] rfl Zz.g ?_; (with_reducible refine (wire_DecodeReply.calls kj58 (t792 ++ a3) t851 t852 t853 t854 t855 t858 t861 _ A85.out).mono ?_); rintro e w159 ⟨v856, v859, rfl, ho0, ho1, hb⟩; refine ⟨_, rfl, ?_⟩; have n0_ := Aside0.mk (Kd.R_below (by (with_reducible repeat (first | apply Kd.R_alloc | apply Kd.R_drewN | apply Kd.R_drew)); exact (Kd.R_mono (Zz.f18 (Kd.R_types HO848.out BK850.out (by decide)) (fun _ hk => hk.2)) (fun _ h_ => h_.1))) hb); have n1_ := Aside0.mk (Kd.R_lower ho0 (below_size (Zz.i HB.out))); have n2_ := Aside0.mk (Kd.R_lower ho1 (below_size (Zz.i HB.out))); have n3_ := Aside0.mk (blk_below (g := gb785) (o := .cells #[.int .i64 a0_0, .int .i64 a0_1, .int .i64 a0_2, .int .i64 a0_3, .int .i64 a0_4, .int .i64 a0_5, .int .i64 a0_6, .int .i64 a0_7, .int .i64 a0_8, .int .i64 a0_9, .int .i64 a0_10, .int .i64 a0_11, .bool a0_12, .int .i64 a0_13, .int .i64 a0_14, .int .i64 a0_15, .int .i64 a0_16, .slice A0_17 l0_17.length c0_17] 43 (0, 0)) (by exact Zz.q18 BK785.out NB785_850.out) hb); have n4_ := Aside0.mk (blk_below (g := gb786) (o := .cells #[.int .i64 a1_0, .int .i64 a1_1, .int .i64 a1_2, .int .i64 a1_3, .slice A1_4 l1_4.length c1_4, .slice A1_5 l1_5.length c1_5] 26 (0, 0)) (by exact Zz.q18 BK786.out NB786_850.out) hb); have n5_ := Aside0.mk (blk_below (g := gb850) (o := .cells #[.int .i64 t829, .int .i64 t830, .int .i64 t831, .int .i64 t832, .int .i64 t833, .int .i64 t834, .int .i64 t835, .int .i64 t836, .int .i64 t837, .int .i64 t838, .int .i64 t839, .int .i64 t840, .bool t841, .int .i64 t842, .int .i64 t843, .int .i64 t844, .int .i64 t845, .slice Ao158 t846.length co158] 43 (0, 0)) (by (with_reducible repeat (first | refine blk_drewN ?_ _ | refine blk_drew ?_ | refine blk_alloc ?_ _)); exact Zz.u18_0_17 BK850.out) hb); have n6_ := Aside0.mk (below_step (Zz.i HB.out) hb); clear HO848; clear BK785; clear BK786; clear BK850; clear HB; have HO848 := n0_; have HO857 := n1_; have HO860 := n2_; have BK785 := n3_; have BK786 := n4_; have BK850 := n5_; have HB := n6_; clear n0_ n1_ n2_ n3_ n4_ n5_ n6_; (try clear hb); (try clear hk); (try clear ho0); (try clear ho1)) | ((with_reducible refine gate_dst (N := 19) rfl ?_); (try (refine gate_guard (by rfl) ?_; dsimp only)); refine box_event ?hg (N := 19) ?hd (cs := #[.int .i64 0, .int .i64 0, .int .i64 0, .int .i64 0, .slice none 0 0, .slice none 0 0]) (t := 26) ?hr ?_; (case hd => rfl); (case hg => rfl); (case hr => first | (go_simp; done) | (go_simp; rfl)); intro gb862 hg w160 hbox hb; replace HO848 := Aside0.mk (Kd.R_below (Zz.r HO848.out) hb); replace HO857 := Aside0.mk (Kd.R_below (Zz.r HO857.out) hb); replace HO860 := Aside0.mk (Kd.R_below (Zz.r HO860.out) hb); have BK862 := Aside0.mk (hbox); have GW862 := Aside0.mk (Zz.ge hg HB.out); have GE862 := Aside0.mk (Zz.ge hg HB.out); replace HB := Aside0.mk (below_step (Zz.i HB.out) hb); have NB785_862 := Aside0.mk (Zz.nl hg BK785.out); have NB862_785 := Aside0.mk (Zz.ng hg BK785.out); replace BK785 := Aside0.mk (Zz.bb BK785.out hb); have NB786_862 := Aside0.mk (Zz.nl hg BK786.out); have NB862_786 := Aside0.mk (Zz.ng hg BK786.out); replace BK786 := Aside0.mk (Zz.bb BK786.out hb); have NB850_862 := Aside0.mk (Zz.nl hg BK850.out); have NB862_850 := Aside0.mk (Zz.ng hg BK850.out); replace BK850 := Aside0.mk (Zz.bb BK850.out hb); clear hb hbox hg; have hnb161 := NB862_785.out; have hnc161 := NB785_862.out; have hnb162 := NB862_786.out; have hnc162 := NB786_862.out; have hnb163 := NB862_850.out; have hnc163 := NB850_862.out; have hcz164 := Zz.c6 BK862.out; have hfz164 := blk_frozen BK862.out; obtain ⟨Ao165, co165, eo165⟩ := Kd.R_slice HO857.out; subst eo165; obtain ⟨Ao166, co166, eo166⟩ := Kd.R_slice HO860.out; subst eo166) | (go_at_call 9; (with_reducible refine (headgatelaw18_awake.calls kj58  t865 _ A152.out).mono ?_); rintro e w167 ⟨rfl, hb⟩; have n0_ := Aside0.mk (Kd.R_below (by (with_reducible repeat (first | apply Kd.R_alloc | apply Kd.R_drewN | apply Kd.R_drew)); exact (Kd.R_mono (Zz.f6 (Kd.R_types HO848.out BK862.out (by decide)) (fun _ hk => hk.2)) (fun _ h_ => h_.1))) hb); have n1_ := Aside0.mk (Kd.R_below (by (with_reducible repeat (first | apply Kd.R_alloc | apply Kd.R_drewN | apply Kd.R_drew)); exact (Kd.R_mono (Zz.f6 (Kd.R_types HO857.out BK862.out (by decide)) (fun _ hk => hk.2)) (fun _ h_ => h_.1))) hb); have n2_ := Aside0.mk (Kd.R_below (by (with_reducible repeat (first | apply Kd.R_alloc | apply Kd.R_drewN | apply Kd.R_drew)); exact (Kd.R_mono (Zz.f6 (Kd.R_types HO860.out BK862.out (by decide)) (fun _ hk => hk.2)) (fun _ h_ => h_.1))) hb); have n3_ := Aside0.mk (blk_below (g := gb785) (o := .cells #[.int .i64 a0_0, .int .i64 a0_1, .int .i64 a0_2, .int .i64 a0_3, .int .i64 a0_4, .int .i64 a0_5, .int .i64 a0_6, .int .i64 a0_7, .int .i64 a0_8, .int .i64 a0_9, .int .i64 a0_10, .int .i64 a0_11, .bool a0_12, .int .i64 a0_13, .int .i64 a0_14, .int .i64 a0_15, .int .i64 a0_16, .slice A0_17 l0_17.length c0_17] 43 (0, 0)) (by exact Zz.q6 BK785.out NB785_862.out) hb); have n4_ := Aside0.mk (blk_below (g := gb786) (o := .cells #[.int .i64 a1_0, .int .i64 a1_1, .int .i64 a1_2, .int .i64 a1_3, .slice A1_4 l1_4.length c1_4, .slice A1_5 l1_5.length c1_5] 26 (0, 0)) (by exact Zz.q6 BK786.out NB786_862.out) hb); have n5_ := Aside0.mk (blk_below (g := gb850) (o := .cells #[.int .i64 t829, .int .i64 t830, .int .i64 t831, .int .i64 t832, .int .i64 t833, .int .i64 t834, .int .i64 t835, .int .i64 t836, .int .i64 t837, .int .i64 t838, .int .i64 t839, .int .i64 t840, .bool t841, .int .i64 t842, .int .i64 t843, .int .i64 t844, .int .i64 t845, .slice Ao158 t846.length co158] 43 (0, 0)) (by exact Zz.q6 BK850.out NB850_862.out) hb); have n6_ := Aside0.mk (blk_below (g := gb862) (o := .cells #[.int .i64 t851, .int .i64 t852, .int .i64 t853, .int .i64 t854, .slice Ao165 t855.length co165, .slice Ao166 t858.length co166] 26 (0, 0)) (by (with_reducible repeat (first | refine blk_drewN ?_ _ | refine blk_drew ?_ | refine blk_alloc ?_ _)); exact Zz.u6_0_5 BK862.out) hb); have n7_ := Aside0.mk (below_step (Zz.i HB.out) hb); clear HO848; clear HO857; clear HO860; clear BK785; clear BK786; clear BK850; clear BK862; clear HB; have HO848 := n0_; have HO857 := n1_; have HO860 := n2_; have BK785 := n3_; have BK786 := n4_; have BK850 := n5_; have BK862 := n6_; have HB := n7_; clear n0_ n1_ n2_ n3_ n4_ n5_ n6_ n7_; (try clear hb); (try clear hk)))
          go_ret
          exact ⟨by first | rfl | (simp [errW_none, errW_some] <;> rfl) | (simp [*, errW_none, errW_some] <;> rfl), by repeat (first | (with_reducible first | exact HB.out | apply below_alloc | apply pw_below_drewN | apply below_drew1 | refine below_set ?_ GE785.out | refine below_set ?_ GE786.out | refine below_set ?_ GE850.out | refine below_set ?_ GE862.out) | exact HB.out)⟩
         rw [if_neg c151] at H
         have c151b0 : (t861 == 2) = false := beq_eq_false_iff_ne.mpr c151
         have c151b1 : (t861 != 2) = true := bne_iff_ne.mpr c151
         obtain rfl := Option.some.inj H
         go_wp2_with (first | ((with_reducible refine gate_callee (f := 18) rfl ?_); refine goesL_ (some 95) rfl rfl Try.func18 (by kernel_rfl) rfl #[.string (t790 ++ a3)] rfl Zz.g ?_; (with_reducible refine (wire_DecodeAsk.calls kj58 (t790 ++ a3) t829 t830 t831 t832 t833 t834 t835 t836 t837 t838 t839 t840 t841 t842 t843 t844 t845 t846 t849 _ A83.out).mono ?_); rintro e w168 ⟨v847, rfl, ho0, hb⟩; refine ⟨_, rfl, ?_⟩; have HO848 := Aside0.mk (Kd.R_lower ho0 (below_size (Zz.i HB.out))); replace BK785 := Aside0.mk (Zz.bb BK785.out hb); replace BK786 := Aside0.mk (Zz.bb BK786.out hb); replace HB := Aside0.mk (below_step (Zz.i HB.out) hb); (try clear hb); (try clear ho0)) | ((with_reducible refine gate_dst (N := 17) rfl ?_); (try (refine gate_guard (by rfl) ?_; dsimp only)); refine box_event ?hg (N := 17) ?hd (cs := #[.int .i64 0, .int .i64 0, .int .i64 0, .int .i64 0, .int .i64 0, .int .i64 0, .int .i64 0, .int .i64 0, .int .i64 0, .int .i64 0, .int .i64 0, .int .i64 0, .bool false, .int .i64 0, .int .i64 0, .int .i64 0, .int .i64 0, .slice none 0 0]) (t := 43) ?hr ?_; (case hd => rfl); (case hg => rfl); (case hr => first | (go_simp; done) | (go_simp; rfl)); intro gb850 hg w169 hbox hb; replace HO848 := Aside0.mk (Kd.R_below (Zz.r HO848.out) hb); have BK850 := Aside0.mk (hbox); have GW850 := Aside0.mk (Zz.ge hg HB.out); have GE850 := Aside0.mk (Zz.ge hg HB.out); replace HB := Aside0.mk (below_step (Zz.i HB.out) hb); have NB785_850 := Aside0.mk (Zz.nl hg BK785.out); have NB850_785 := Aside0.mk (Zz.ng hg BK785.out); replace BK785 := Aside0.mk (Zz.bb BK785.out hb); have NB786_850 := Aside0.mk (Zz.nl hg BK786.out); have NB850_786 := Aside0.mk (Zz.ng hg BK786.out); replace BK786 := Aside0.mk (Zz.bb BK786.out hb); clear hb hbox hg; have hnb170 := NB850_785.out; have hnc170 := NB785_850.out; have hnb171 := NB850_786.out; have hnc171 := NB786_850.out; have hcz172 := Zz.c18 BK850.out; have hfz172 := blk_frozen BK850.out; obtain ⟨Ao173, co173, eo173⟩ := Kd.R_slice HO848.out; subst eo173) | ((with_reducible refine gate_callee (f := 12) rfl ?_); refine goesL_ (some 102) rfl rfl Try.func12 (by kernel_rfl) rfl #[.string (t792 ++ a3)] rfl Zz.g ?_; (with_reducible refine (wire_DecodeReply.calls kj58 (t792 ++ a3) t851 t852 t853 t854 t855 t858 t861 _ A85.out).mono ?_); rintro e w174 ⟨v856, v859, rfl, ho0, ho1, hb⟩; refine ⟨_, rfl, ?_⟩; have n0_ := Aside0.mk (Kd.R_below (by (with_reducible repeat (first | apply Kd.R_alloc | apply Kd.R_drewN | apply Kd.R_drew)); exact (Kd.R_mono (Zz.f18 (Kd.R_types HO848.out BK850.out (by decide)) (fun _ hk => hk.2)) (fun _ h_ => h_.1))) hb); have n1_ := Aside0.mk (Kd.R_lower ho0 (below_size (Zz.i HB.out))); have n2_ := Aside0.mk (Kd.R_lower ho1 (below_size (Zz.i HB.out))); have n3_ := Aside0.mk (blk_below (g := gb785) (o := .cells #[.int .i64 a0_0, .int .i64 a0_1, .int .i64 a0_2, .int .i64 a0_3, .int .i64 a0_4, .int .i64 a0_5, .int .i64 a0_6, .int .i64 a0_7, .int .i64 a0_8, .int .i64 a0_9, .int .i64 a0_10, .int .i64 a0_11, .bool a0_12, .int .i64 a0_13, .int .i64 a0_14, .int .i64 a0_15, .int .i64 a0_16, .slice A0_17 l0_17.length c0_17] 43 (0, 0)) (by exact Zz.q18 BK785.out NB785_850.out) hb); have n4_ := Aside0.mk (blk_below (g := gb786) (o := .cells #[.int .i64 a1_0, .int .i64 a1_1, .int .i64 a1_2, .int .i64 a1_3, .slice A1_4 l1_4.length c1_4, .slice A1_5 l1_5.length c1_5] 26 (0, 0)) (by exact Zz.q18 BK786.out NB786_850.out) hb); have n5_ := Aside0.mk (blk_below (g := gb850) (o := .cells #[.int .i64 t829, .int .i64 t830, .int .i64 t831, .int .i64 t832, .int .i64 t833, .int .i64 t834, .int .i64 t835, .int .i64 t836, .int .i64 t837, .int .i64 t838, .int .i64 t839, .int .i64 t840, .bool t841, .int .i64 t842, .int .i64 t843, .int .i64 t844, .int .i64 t845, .slice Ao173 t846.length co173] 43 (0, 0)) (by (with_reducible repeat (first | refine blk_drewN ?_ _ | refine blk_drew ?_ | refine blk_alloc ?_ _)); exact Zz.u18_0_17 BK850.out) hb); have n6_ := Aside0.mk (below_step (Zz.i HB.out) hb); clear HO848; clear BK785; clear BK786; clear BK850; clear HB; have HO848 := n0_; have HO857 := n1_; have HO860 := n2_; have BK785 := n3_; have BK786 := n4_; have BK850 := n5_; have HB := n6_; clear n0_ n1_ n2_ n3_ n4_ n5_ n6_; (try clear hb); (try clear hk); (try clear ho0); (try clear ho1)) | ((with_reducible refine gate_dst (N := 19) rfl ?_); (try (refine gate_guard (by rfl) ?_; dsimp only)); refine box_event ?hg (N := 19) ?hd (cs := #[.int .i64 0, .int .i64 0, .int .i64 0, .int .i64 0, .slice none 0 0, .slice none 0 0]) (t := 26) ?hr ?_; (case hd => rfl); (case hg => rfl); (case hr => first | (go_simp; done) | (go_simp; rfl)); intro gb862 hg w175 hbox hb; replace HO848 := Aside0.mk (Kd.R_below (Zz.r HO848.out) hb); replace HO857 := Aside0.mk (Kd.R_below (Zz.r HO857.out) hb); replace HO860 := Aside0.mk (Kd.R_below (Zz.r HO860.out) hb); have BK862 := Aside0.mk (hbox); have GW862 := Aside0.mk (Zz.ge hg HB.out); have GE862 := Aside0.mk (Zz.ge hg HB.out); replace HB := Aside0.mk (below_step (Zz.i HB.out) hb); have NB785_862 := Aside0.mk (Zz.nl hg BK785.out); have NB862_785 := Aside0.mk (Zz.ng hg BK785.out); replace BK785 := Aside0.mk (Zz.bb BK785.out hb); have NB786_862 := Aside0.mk (Zz.nl hg BK786.out); have NB862_786 := Aside0.mk (Zz.ng hg BK786.out); replace BK786 := Aside0.mk (Zz.bb BK786.out hb); have NB850_862 := Aside0.mk (Zz.nl hg BK850.out); have NB862_850 := Aside0.mk (Zz.ng hg BK850.out); replace BK850 := Aside0.mk (Zz.bb BK850.out hb); clear hb hbox hg; have hnb176 := NB862_785.out; have hnc176 := NB785_862.out; have hnb177 := NB862_786.out; have hnc177 := NB786_862.out; have hnb178 := NB862_850.out; have hnc178 := NB850_862.out; have hcz179 := Zz.c6 BK862.out; have hfz179 := blk_frozen BK862.out; obtain ⟨Ao180, co180, eo180⟩ := Kd.R_slice HO857.out; subst eo180; obtain ⟨Ao181, co181, eo181⟩ := Kd.R_slice HO860.out; subst eo181))
         go_ret
         exact ⟨by first | rfl | (simp [errW_none, errW_some] <;> rfl) | (simp [*, errW_none, errW_some] <;> rfl), by repeat (first | (with_reducible first | exact HB.out | apply below_alloc | apply pw_below_drewN | apply below_drew1 | refine below_set ?_ GE785.out | refine below_set ?_ GE786.out | refine below_set ?_ GE850.out | refine below_set ?_ GE862.out) | exact HB.out)⟩
        rw [if_neg c150] at H
        have c150b0 : (t793 == 0) = false := beq_eq_false_iff_ne.mpr c150
        have c150b1 : (t793 != 0) = true := bne_iff_ne.mpr c150
        replace H := Option.bind_eq_some_iff.mp H
        obtain ⟨t866, A1820, H⟩ := H
        replace H : (some t866) = some r := H
        have A182 := Aside0.mk A1820
        clear A1820
        obtain rfl := Option.some.inj H
        go_wp2_with (first | ((with_reducible refine gate_callee (f := 18) rfl ?_); refine goesL_ (some 95) rfl rfl Try.func18 (by kernel_rfl) rfl #[.string (t790 ++ a3)] rfl Zz.g ?_; (with_reducible refine (wire_DecodeAsk.calls kj58 (t790 ++ a3) t829 t830 t831 t832 t833 t834 t835 t836 t837 t838 t839 t840 t841 t842 t843 t844 t845 t846 t849 _ A83.out).mono ?_); rintro e w183 ⟨v847, rfl, ho0, hb⟩; refine ⟨_, rfl, ?_⟩; have HO848 := Aside0.mk (Kd.R_lower ho0 (below_size (Zz.i HB.out))); replace BK785 := Aside0.mk (Zz.bb BK785.out hb); replace BK786 := Aside0.mk (Zz.bb BK786.out hb); replace HB := Aside0.mk (below_step (Zz.i HB.out) hb); (try clear hb); (try clear ho0)) | ((with_reducible refine gate_dst (N := 17) rfl ?_); (try (refine gate_guard (by rfl) ?_; dsimp only)); refine box_event ?hg (N := 17) ?hd (cs := #[.int .i64 0, .int .i64 0, .int .i64 0, .int .i64 0, .int .i64 0, .int .i64 0, .int .i64 0, .int .i64 0, .int .i64 0, .int .i64 0, .int .i64 0, .int .i64 0, .bool false, .int .i64 0, .int .i64 0, .int .i64 0, .int .i64 0, .slice none 0 0]) (t := 43) ?hr ?_; (case hd => rfl); (case hg => rfl); (case hr => first | (go_simp; done) | (go_simp; rfl)); intro gb850 hg w184 hbox hb; replace HO848 := Aside0.mk (Kd.R_below (Zz.r HO848.out) hb); have BK850 := Aside0.mk (hbox); have GW850 := Aside0.mk (Zz.ge hg HB.out); have GE850 := Aside0.mk (Zz.ge hg HB.out); replace HB := Aside0.mk (below_step (Zz.i HB.out) hb); have NB785_850 := Aside0.mk (Zz.nl hg BK785.out); have NB850_785 := Aside0.mk (Zz.ng hg BK785.out); replace BK785 := Aside0.mk (Zz.bb BK785.out hb); have NB786_850 := Aside0.mk (Zz.nl hg BK786.out); have NB850_786 := Aside0.mk (Zz.ng hg BK786.out); replace BK786 := Aside0.mk (Zz.bb BK786.out hb); clear hb hbox hg; have hnb185 := NB850_785.out; have hnc185 := NB785_850.out; have hnb186 := NB850_786.out; have hnc186 := NB786_850.out; have hcz187 := Zz.c18 BK850.out; have hfz187 := blk_frozen BK850.out; obtain ⟨Ao188, co188, eo188⟩ := Kd.R_slice HO848.out; subst eo188) | ((with_reducible refine gate_callee (f := 12) rfl ?_); refine goesL_ (some 102) rfl rfl Try.func12 (by kernel_rfl) rfl #[.string (t792 ++ a3)] rfl Zz.g ?_; (with_reducible refine (wire_DecodeReply.calls kj58 (t792 ++ a3) t851 t852 t853 t854 t855 t858 t861 _ A85.out).mono ?_); rintro e w189 ⟨v856, v859, rfl, ho0, ho1, hb⟩; refine ⟨_, rfl, ?_⟩; have n0_ := Aside0.mk (Kd.R_below (by (with_reducible repeat (first | apply Kd.R_alloc | apply Kd.R_drewN | apply Kd.R_drew)); exact (Kd.R_mono (Zz.f18 (Kd.R_types HO848.out BK850.out (by decide)) (fun _ hk => hk.2)) (fun _ h_ => h_.1))) hb); have n1_ := Aside0.mk (Kd.R_lower ho0 (below_size (Zz.i HB.out))); have n2_ := Aside0.mk (Kd.R_lower ho1 (below_size (Zz.i HB.out))); have n3_ := Aside0.mk (blk_below (g := gb785) (o := .cells #[.int .i64 a0_0, .int .i64 a0_1, .int .i64 a0_2, .int .i64 a0_3, .int .i64 a0_4, .int .i64 a0_5, .int .i64 a0_6, .int .i64 a0_7, .int .i64 a0_8, .int .i64 a0_9, .int .i64 a0_10, .int .i64 a0_11, .bool a0_12, .int .i64 a0_13, .int .i64 a0_14, .int .i64 a0_15, .int .i64 a0_16, .slice A0_17 l0_17.length c0_17] 43 (0, 0)) (by exact Zz.q18 BK785.out NB785_850.out) hb); have n4_ := Aside0.mk (blk_below (g := gb786) (o := .cells #[.int .i64 a1_0, .int .i64 a1_1, .int .i64 a1_2, .int .i64 a1_3, .slice A1_4 l1_4.length c1_4, .slice A1_5 l1_5.length c1_5] 26 (0, 0)) (by exact Zz.q18 BK786.out NB786_850.out) hb); have n5_ := Aside0.mk (blk_below (g := gb850) (o := .cells #[.int .i64 t829, .int .i64 t830, .int .i64 t831, .int .i64 t832, .int .i64 t833, .int .i64 t834, .int .i64 t835, .int .i64 t836, .int .i64 t837, .int .i64 t838, .int .i64 t839, .int .i64 t840, .bool t841, .int .i64 t842, .int .i64 t843, .int .i64 t844, .int .i64 t845, .slice Ao188 t846.length co188] 43 (0, 0)) (by (with_reducible repeat (first | refine blk_drewN ?_ _ | refine blk_drew ?_ | refine blk_alloc ?_ _)); exact Zz.u18_0_17 BK850.out) hb); have n6_ := Aside0.mk (below_step (Zz.i HB.out) hb); clear HO848; clear BK785; clear BK786; clear BK850; clear HB; have HO848 := n0_; have HO857 := n1_; have HO860 := n2_; have BK785 := n3_; have BK786 := n4_; have BK850 := n5_; have HB := n6_; clear n0_ n1_ n2_ n3_ n4_ n5_ n6_; (try clear hb); (try clear hk); (try clear ho0); (try clear ho1)) | ((with_reducible refine gate_dst (N := 19) rfl ?_); (try (refine gate_guard (by rfl) ?_; dsimp only)); refine box_event ?hg (N := 19) ?hd (cs := #[.int .i64 0, .int .i64 0, .int .i64 0, .int .i64 0, .slice none 0 0, .slice none 0 0]) (t := 26) ?hr ?_; (case hd => rfl); (case hg => rfl); (case hr => first | (go_simp; done) | (go_simp; rfl)); intro gb862 hg w190 hbox hb; replace HO848 := Aside0.mk (Kd.R_below (Zz.r HO848.out) hb); replace HO857 := Aside0.mk (Kd.R_below (Zz.r HO857.out) hb); replace HO860 := Aside0.mk (Kd.R_below (Zz.r HO860.out) hb); have BK862 := Aside0.mk (hbox); have GW862 := Aside0.mk (Zz.ge hg HB.out); have GE862 := Aside0.mk (Zz.ge hg HB.out); replace HB := Aside0.mk (below_step (Zz.i HB.out) hb); have NB785_862 := Aside0.mk (Zz.nl hg BK785.out); have NB862_785 := Aside0.mk (Zz.ng hg BK785.out); replace BK785 := Aside0.mk (Zz.bb BK785.out hb); have NB786_862 := Aside0.mk (Zz.nl hg BK786.out); have NB862_786 := Aside0.mk (Zz.ng hg BK786.out); replace BK786 := Aside0.mk (Zz.bb BK786.out hb); have NB850_862 := Aside0.mk (Zz.nl hg BK850.out); have NB862_850 := Aside0.mk (Zz.ng hg BK850.out); replace BK850 := Aside0.mk (Zz.bb BK850.out hb); clear hb hbox hg; have hnb191 := NB862_785.out; have hnc191 := NB785_862.out; have hnb192 := NB862_786.out; have hnc192 := NB786_862.out; have hnb193 := NB862_850.out; have hnc193 := NB850_862.out; have hcz194 := Zz.c6 BK862.out; have hfz194 := blk_frozen BK862.out; obtain ⟨Ao195, co195, eo195⟩ := Kd.R_slice HO857.out; subst eo195; obtain ⟨Ao196, co196, eo196⟩ := Kd.R_slice HO860.out; subst eo196) | (go_at_call 9; (with_reducible refine (headgatelaw18_awake.calls kj58  t866 _ A182.out).mono ?_); rintro e w197 ⟨rfl, hb⟩; have n0_ := Aside0.mk (Kd.R_below (by (with_reducible repeat (first | apply Kd.R_alloc | apply Kd.R_drewN | apply Kd.R_drew)); exact (Kd.R_mono (Zz.f6 (Kd.R_types HO848.out BK862.out (by decide)) (fun _ hk => hk.2)) (fun _ h_ => h_.1))) hb); have n1_ := Aside0.mk (Kd.R_below (by (with_reducible repeat (first | apply Kd.R_alloc | apply Kd.R_drewN | apply Kd.R_drew)); exact (Kd.R_mono (Zz.f6 (Kd.R_types HO857.out BK862.out (by decide)) (fun _ hk => hk.2)) (fun _ h_ => h_.1))) hb); have n2_ := Aside0.mk (Kd.R_below (by (with_reducible repeat (first | apply Kd.R_alloc | apply Kd.R_drewN | apply Kd.R_drew)); exact (Kd.R_mono (Zz.f6 (Kd.R_types HO860.out BK862.out (by decide)) (fun _ hk => hk.2)) (fun _ h_ => h_.1))) hb); have n3_ := Aside0.mk (blk_below (g := gb785) (o := .cells #[.int .i64 a0_0, .int .i64 a0_1, .int .i64 a0_2, .int .i64 a0_3, .int .i64 a0_4, .int .i64 a0_5, .int .i64 a0_6, .int .i64 a0_7, .int .i64 a0_8, .int .i64 a0_9, .int .i64 a0_10, .int .i64 a0_11, .bool a0_12, .int .i64 a0_13, .int .i64 a0_14, .int .i64 a0_15, .int .i64 a0_16, .slice A0_17 l0_17.length c0_17] 43 (0, 0)) (by exact Zz.q6 BK785.out NB785_862.out) hb); have n4_ := Aside0.mk (blk_below (g := gb786) (o := .cells #[.int .i64 a1_0, .int .i64 a1_1, .int .i64 a1_2, .int .i64 a1_3, .slice A1_4 l1_4.length c1_4, .slice A1_5 l1_5.length c1_5] 26 (0, 0)) (by exact Zz.q6 BK786.out NB786_862.out) hb); have n5_ := Aside0.mk (blk_below (g := gb850) (o := .cells #[.int .i64 t829, .int .i64 t830, .int .i64 t831, .int .i64 t832, .int .i64 t833, .int .i64 t834, .int .i64 t835, .int .i64 t836, .int .i64 t837, .int .i64 t838, .int .i64 t839, .int .i64 t840, .bool t841, .int .i64 t842, .int .i64 t843, .int .i64 t844, .int .i64 t845, .slice Ao188 t846.length co188] 43 (0, 0)) (by exact Zz.q6 BK850.out NB850_862.out) hb); have n6_ := Aside0.mk (blk_below (g := gb862) (o := .cells #[.int .i64 t851, .int .i64 t852, .int .i64 t853, .int .i64 t854, .slice Ao195 t855.length co195, .slice Ao196 t858.length co196] 26 (0, 0)) (by (with_reducible repeat (first | refine blk_drewN ?_ _ | refine blk_drew ?_ | refine blk_alloc ?_ _)); exact Zz.u6_0_5 BK862.out) hb); have n7_ := Aside0.mk (below_step (Zz.i HB.out) hb); clear HO848; clear HO857; clear HO860; clear BK785; clear BK786; clear BK850; clear BK862; clear HB; have HO848 := n0_; have HO857 := n1_; have HO860 := n2_; have BK785 := n3_; have BK786 := n4_; have BK850 := n5_; have BK862 := n6_; have HB := n7_; clear n0_ n1_ n2_ n3_ n4_ n5_ n6_ n7_; (try clear hb); (try clear hk)))
        go_ret
        exact ⟨by first | rfl | (simp [errW_none, errW_some] <;> rfl) | (simp [*, errW_none, errW_some] <;> rfl), by repeat (first | (with_reducible first | exact HB.out | apply below_alloc | apply pw_below_drewN | apply below_drew1 | refine below_set ?_ GE785.out | refine below_set ?_ GE786.out | refine below_set ?_ GE850.out | refine below_set ?_ GE862.out) | exact HB.out)⟩
       rw [if_neg c84] at H
       exact absurd H (by simp)
      rw [if_neg c82] at H
      exact absurd H (by simp)

/-- THE ONE PURE STATEMENT of headgatelaw18_WireCut: yours. -/
def headgatelaw18_WireCut.Pure : Prop := ∀ (a0_0 : Int) (a0_1 : Int) (a0_2 : Int) (a0_3 : Int) (a0_4 : Int) (a0_5 : Int) (a0_6 : Int) (a0_7 : Int) (a0_8 : Int) (a0_9 : Int) (a0_10 : Int) (a0_11 : Int) (a0_12 : Bool) (a0_13 : Int) (a0_14 : Int) (a0_15 : Int) (a0_16 : Int) (l0_17 : List (S57)) (a1_0 : Int) (a1_1 : Int) (a1_2 : Int) (a1_3 : Int) (l1_4 : List Int) (l1_5 : List (S59)) (a2 : Int) (a3 : ByteArray), ((Lit.int .i64 a0_0).wf = true) → ((Lit.int .i64 a0_1).wf = true) → ((Lit.int .i64 a0_2).wf = true) → ((Lit.int .i64 a0_3).wf = true) → ((Lit.int .i64 a0_4).wf = true) → ((Lit.int .i64 a0_5).wf = true) → ((Lit.int .i64 a0_6).wf = true) → ((Lit.int .i64 a0_7).wf = true) → ((Lit.int .i64 a0_8).wf = true) → ((Lit.int .i64 a0_9).wf = true) → ((Lit.int .i64 a0_10).wf = true) → ((Lit.int .i64 a0_11).wf = true) → ((Lit.int .i64 a0_13).wf = true) → ((Lit.int .i64 a0_14).wf = true) → ((Lit.int .i64 a0_15).wf = true) → ((Lit.int .i64 a0_16).wf = true) → (l0_17.length ≤ 9223372036854775807 ∧ ∀ y_ ∈ l0_17, wf57 y_) → ((Lit.int .i64 a1_0).wf = true) → ((Lit.int .i64 a1_1).wf = true) → ((Lit.int .i64 a1_2).wf = true) → ((Lit.int .i64 a1_3).wf = true) → (l1_4.length ≤ 9223372036854775807 ∧ ∀ y_ ∈ l1_4, (Lit.int .i64 y_).wf = true) → (l1_5.length ≤ 9223372036854775807 ∧ ∀ y_ ∈ l1_5, wf59 y_) → ((Lit.int .i64 a2).wf = true) → (a3.size ≤ 9223372036854775807) → ∃ k, headgatelaw18_WireCut.f k a0_0 a0_1 a0_2 a0_3 a0_4 a0_5 a0_6 a0_7 a0_8 a0_9 a0_10 a0_11 a0_12 a0_13 a0_14 a0_15 a0_16 l0_17 a1_0 a1_1 a1_2 a1_3 l1_4 l1_5 a2 a3 = some true
theorem headgatelaw18_WireCut.walk (P : headgatelaw18_WireCut.Pure) (a0_0 : Int) (a0_1 : Int) (a0_2 : Int) (a0_3 : Int) (a0_4 : Int) (a0_5 : Int) (a0_6 : Int) (a0_7 : Int) (a0_8 : Int) (a0_9 : Int) (a0_10 : Int) (a0_11 : Int) (a0_12 : Bool) (a0_13 : Int) (a0_14 : Int) (a0_15 : Int) (a0_16 : Int) (A0_17 : Option Addr) (c0_17 : Nat) (l0_17 : List (S57)) (a1_0 : Int) (a1_1 : Int) (a1_2 : Int) (a1_3 : Int) (A1_4 : Option Addr) (c1_4 : Nat) (l1_4 : List Int) (A1_5 : Option Addr) (c1_5 : Nat) (l1_5 : List (S59)) (a2 : Int) (a3 : ByteArray) (w : World) (hr0_17 : Kd.C k57 w A0_17 l0_17.length l0_17) (hc0_17 : l0_17.length ≤ c0_17) (hr1_4 : Kd.C (Kd.int .i64) w A1_4 l1_4.length l1_4) (hc1_4 : l1_4.length ≤ c1_4) (hr1_5 : Kd.C k59 w A1_5 l1_5.length l1_5) (hc1_5 : l1_5.length ≤ c1_5) (w0_ : (Lit.int .i64 a0_0).wf = true) (w1_ : (Lit.int .i64 a0_1).wf = true) (w2_ : (Lit.int .i64 a0_2).wf = true) (w3_ : (Lit.int .i64 a0_3).wf = true) (w4_ : (Lit.int .i64 a0_4).wf = true) (w5_ : (Lit.int .i64 a0_5).wf = true) (w6_ : (Lit.int .i64 a0_6).wf = true) (w7_ : (Lit.int .i64 a0_7).wf = true) (w8_ : (Lit.int .i64 a0_8).wf = true) (w9_ : (Lit.int .i64 a0_9).wf = true) (w10_ : (Lit.int .i64 a0_10).wf = true) (w11_ : (Lit.int .i64 a0_11).wf = true) (w12_ : (Lit.int .i64 a0_13).wf = true) (w13_ : (Lit.int .i64 a0_14).wf = true) (w14_ : (Lit.int .i64 a0_15).wf = true) (w15_ : (Lit.int .i64 a0_16).wf = true) (w16_ : l0_17.length ≤ 9223372036854775807 ∧ ∀ y_ ∈ l0_17, wf57 y_) (w17_ : (Lit.int .i64 a1_0).wf = true) (w18_ : (Lit.int .i64 a1_1).wf = true) (w19_ : (Lit.int .i64 a1_2).wf = true) (w20_ : (Lit.int .i64 a1_3).wf = true) (w21_ : l1_4.length ≤ 9223372036854775807 ∧ ∀ y_ ∈ l1_4, (Lit.int .i64 y_).wf = true) (w22_ : l1_5.length ≤ 9223372036854775807 ∧ ∀ y_ ∈ l1_5, wf59 y_) (w23_ : (Lit.int .i64 a2).wf = true) (w24_ : a3.size ≤ 9223372036854775807) :
    Calls Try.prog 7 #[.agg #[.int .i64 a0_0, .int .i64 a0_1, .int .i64 a0_2, .int .i64 a0_3, .int .i64 a0_4, .int .i64 a0_5, .int .i64 a0_6, .int .i64 a0_7, .int .i64 a0_8, .int .i64 a0_9, .int .i64 a0_10, .int .i64 a0_11, .bool a0_12, .int .i64 a0_13, .int .i64 a0_14, .int .i64 a0_15, .int .i64 a0_16, .slice A0_17 l0_17.length c0_17], .agg #[.int .i64 a1_0, .int .i64 a1_1, .int .i64 a1_2, .int .i64 a1_3, .slice A1_4 l1_4.length c1_4, .slice A1_5 l1_5.length c1_5], .int .i64 a2, .string a3] w fun e w' => e = .returned (.bool true) ∧ Below w.heap.size w w' := by
 obtain ⟨k, h⟩ := P a0_0 a0_1 a0_2 a0_3 a0_4 a0_5 a0_6 a0_7 a0_8 a0_9 a0_10 a0_11 a0_12 a0_13 a0_14 a0_15 a0_16 l0_17 a1_0 a1_1 a1_2 a1_3 l1_4 l1_5 a2 a3 w0_ w1_ w2_ w3_ w4_ w5_ w6_ w7_ w8_ w9_ w10_ w11_ w12_ w13_ w14_ w15_ w16_ w17_ w18_ w19_ w20_ w21_ w22_ w23_ w24_
 refine (headgatelaw18_WireCut.calls k a0_0 a0_1 a0_2 a0_3 a0_4 a0_5 a0_6 a0_7 a0_8 a0_9 a0_10 a0_11 a0_12 a0_13 a0_14 a0_15 a0_16 _ _ l0_17 a1_0 a1_1 a1_2 a1_3 _ _ l1_4 _ _ l1_5 a2 a3 true w hr0_17 hc0_17 hr1_4 hc1_4 hr1_5 hc1_5 h).mono ?_
 rintro e w' ⟨rfl, hd⟩
 exact ⟨rfl, hd⟩

end Go.Proofs.Ytikbpjdgihheiaa.P
