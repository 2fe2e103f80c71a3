-- Written by wip/mk.py of this repo: the kit's print program, with contracts of our own among its functions.
import Derived.Test.YtikbpjdgihheiaaPx0
import Derived.Test.YtikbpjdgihheiaaPx8
import Derived.Test.YtikbpjdgihheiaaPx13
import Derived.Test.YtikbpjdgihheiaaPx14
import Derived.Test.YtikbpjdgihheiaaPx19
import Derived.Test.YtikbpjdgihheiaaPx25
import Derived.Test.YtikbpjdgihheiaaPx36
import Derived.Test.YtikbpjdgihheiaaPx40
import Derived.Test.YtikbpjdgihheiaaKs
import Derived.Test.YtikbpjdgihheiaaZz
import Derived.Test.YtikbpjdgihheiaaKl
-- pressed
namespace Go.Proofs.Ytikbpjdgihheiaa.P
open Go.RowKit Go.Proofs.YtikbpjdgihheiaaW.PrintWords Go.Proofs.YtikbpjdgihheiaaW.PrintLast Go.Proofs.YtikbpjdgihheiaaW.PrintMore
attribute [local go_sem] max2_int min2_int max_two min_two max_three min_three max_four min_four   -- for this text's walks alone
attribute [local go_sem ↓] Kp.LDAsk_in Ks.STAsk_in
attribute [local go_sem] Kp.LDAsk_run Ks.STAsk_run
set_option linter.unusedVariables false
set_option linter.unusedSimpArgs false

/-! ### headgatelaw18_WireOnly: function 6 -/
mutual
def headgatelaw18_WireOnly.j0 : Nat → ByteArray → Int → Int → Int → Int → Int → Int → Int → Int → Int → Int → Int → Int → Int → Bool → Int → Int → Int → Int → List (S57) → Option (Bool)
  | 0, _, _, _, _, _, _, _, _, _, _, _, _, _, _, _, _, _, _, _, _ => none
  | k + 1, x0, x4, x757000, x757001, x757002, x757003, x757004, x757005, x757006, x757007, x757008, x757009, x757010, x757011, x757012, x757013, x757014, x757015, x757016, x757017 => (wire_DecodeReply.f k x0).bind fun bt759 => (if bt759.2.2.2.2.2.2 = 0 then ((wire_EncodeReply.f k bt759.1 bt759.2.1 bt759.2.2.1 bt759.2.2.2.1 bt759.2.2.2.2.1 bt759.2.2.2.2.2.1).bind fun bt771 => (if bt771.2 = 0 then (headgatelaw18_WireOnly.j1 k x4 bt759.2.2.2.2.2.2 (bt771.1.toList != x0.toList) x757000 x757001 x757002 x757003 x757004 x757005 x757006 x757007 x757008 x757009 x757010 x757011 x757012 x757013 x757014 x757015 x757016 x757017 bt759.1 bt759.2.1 bt759.2.2.1 bt759.2.2.2.1 bt759.2.2.2.2.1 bt759.2.2.2.2.2.1) else (headgatelaw18_WireOnly.j1 k x4 bt759.2.2.2.2.2.2 true x757000 x757001 x757002 x757003 x757004 x757005 x757006 x757007 x757008 x757009 x757010 x757011 x757012 x757013 x757014 x757015 x757016 x757017 bt759.1 bt759.2.1 bt759.2.2.1 bt759.2.2.2.1 bt759.2.2.2.2.1 bt759.2.2.2.2.2.1))) else (if x4 = 0 then (if bt759.2.2.2.2.2.2 = 2 then ((headgateref18_SameReply.f k bt759.1 bt759.2.1 bt759.2.2.1 bt759.2.2.2.1 bt759.2.2.2.2.1 bt759.2.2.2.2.2.1 0 0 0 0 ([] : List Int) ([] : List (S59))).bind fun t780 => (if t780 = true then ((headgatelaw18_awake.f k).bind fun t781 => (some t781)) else (some false))) else (some false)) else (if x4 = 2 then ((headgateref18_SameAsk.f k x757000 x757001 x757002 x757003 x757004 x757005 x757006 x757007 x757008 x757009 x757010 x757011 x757012 x757013 x757014 x757015 x757016 x757017 0 0 0 0 0 0 0 0 0 0 0 0 false 0 0 0 0 ([] : List (S57))).bind fun t782 => (if t782 = true then (if bt759.2.2.2.2.2.2 = 2 then ((headgateref18_SameReply.f k bt759.1 bt759.2.1 bt759.2.2.1 bt759.2.2.2.1 bt759.2.2.2.2.1 bt759.2.2.2.2.2.1 0 0 0 0 ([] : List Int) ([] : List (S59))).bind fun t783 => (if t783 = true then ((headgatelaw18_awake.f k).bind fun t784 => (some t784)) else (some false))) else (some false)) else (some false))) else (some false))))
def headgatelaw18_WireOnly.j1 : Nat → Int → Int → Bool → Int → Int → Int → Int → Int → Int → Int → Int → Int → Int → Int → Int → Bool → Int → Int → Int → Int → List (S57) → Int → Int → Int → Int → List Int → List (S59) → Option (Bool)
  | 0, _, _, _, _, _, _, _, _, _, _, _, _, _, _, _, _, _, _, _, _, _, _, _, _, _, _, _ => none
  | k + 1, x4, x8, x52, x757000, x757001, x757002, x757003, x757004, x757005, x757006, x757007, x757008, x757009, x757010, x757011, x757012, x757013, x757014, x757015, x757016, x757017, x771000, x771001, x771002, x771003, x771004, x771005 => if x52 = true then (some false) else (if x4 = 0 then (if x8 = 0 then ((headgatelaw18_awake.f k).bind fun t773 => (some t773)) else (if x8 = 2 then ((headgateref18_SameReply.f k x771000 x771001 x771002 x771003 x771004 x771005 0 0 0 0 ([] : List Int) ([] : List (S59))).bind fun t774 => (if t774 = true then ((headgatelaw18_awake.f k).bind fun t775 => (some t775)) else (some false))) else (some false))) else (if x4 = 2 then ((headgateref18_SameAsk.f k x757000 x757001 x757002 x757003 x757004 x757005 x757006 x757007 x757008 x757009 x757010 x757011 x757012 x757013 x757014 x757015 x757016 x757017 0 0 0 0 0 0 0 0 0 0 0 0 false 0 0 0 0 ([] : List (S57))).bind fun t776 => (if t776 = true then (if x8 = 0 then ((headgatelaw18_awake.f k).bind fun t777 => (some t777)) else (if x8 = 2 then ((headgateref18_SameReply.f k x771000 x771001 x771002 x771003 x771004 x771005 0 0 0 0 ([] : List Int) ([] : List (S59))).bind fun t778 => (if t778 = true then ((headgatelaw18_awake.f k).bind fun t779 => (some t779)) else (some false))) else (some false))) else (some false))) else (some false)))
end
def headgatelaw18_WireOnly.f (k : Nat) (a0 : ByteArray) : Option (Bool) := if (a0.size : Int) > 5000 then ((headgatelaw18_awake.f k).bind fun t734 => (some t734)) else ((wire_DecodeAsk.f k a0).bind fun bt735 => (if bt735.2.2.2.2.2.2.2.2.2.2.2.2.2.2.2.2.2.2 = 0 then ((wire_EncodeAsk.f k bt735.1 bt735.2.1 bt735.2.2.1 bt735.2.2.2.1 bt735.2.2.2.2.1 bt735.2.2.2.2.2.1 bt735.2.2.2.2.2.2.1 bt735.2.2.2.2.2.2.2.1 bt735.2.2.2.2.2.2.2.2.1 bt735.2.2.2.2.2.2.2.2.2.1 bt735.2.2.2.2.2.2.2.2.2.2.1 bt735.2.2.2.2.2.2.2.2.2.2.2.1 bt735.2.2.2.2.2.2.2.2.2.2.2.2.1 bt735.2.2.2.2.2.2.2.2.2.2.2.2.2.1 bt735.2.2.2.2.2.2.2.2.2.2.2.2.2.2.1 bt735.2.2.2.2.2.2.2.2.2.2.2.2.2.2.2.1 bt735.2.2.2.2.2.2.2.2.2.2.2.2.2.2.2.2.1 bt735.2.2.2.2.2.2.2.2.2.2.2.2.2.2.2.2.2.1).bind fun bt757 => (if bt757.2 = 0 then (if bt757.1.toList = a0.toList then (headgatelaw18_WireOnly.j0 k a0 bt735.2.2.2.2.2.2.2.2.2.2.2.2.2.2.2.2.2.2 bt735.1 bt735.2.1 bt735.2.2.1 bt735.2.2.2.1 bt735.2.2.2.2.1 bt735.2.2.2.2.2.1 bt735.2.2.2.2.2.2.1 bt735.2.2.2.2.2.2.2.1 bt735.2.2.2.2.2.2.2.2.1 bt735.2.2.2.2.2.2.2.2.2.1 bt735.2.2.2.2.2.2.2.2.2.2.1 bt735.2.2.2.2.2.2.2.2.2.2.2.1 bt735.2.2.2.2.2.2.2.2.2.2.2.2.1 bt735.2.2.2.2.2.2.2.2.2.2.2.2.2.1 bt735.2.2.2.2.2.2.2.2.2.2.2.2.2.2.1 bt735.2.2.2.2.2.2.2.2.2.2.2.2.2.2.2.1 bt735.2.2.2.2.2.2.2.2.2.2.2.2.2.2.2.2.1 bt735.2.2.2.2.2.2.2.2.2.2.2.2.2.2.2.2.2.1) else (some false)) else (some false))) else (headgatelaw18_WireOnly.j0 k a0 bt735.2.2.2.2.2.2.2.2.2.2.2.2.2.2.2.2.2.2 bt735.1 bt735.2.1 bt735.2.2.1 bt735.2.2.2.1 bt735.2.2.2.2.1 bt735.2.2.2.2.2.1 bt735.2.2.2.2.2.2.1 bt735.2.2.2.2.2.2.2.1 bt735.2.2.2.2.2.2.2.2.1 bt735.2.2.2.2.2.2.2.2.2.1 bt735.2.2.2.2.2.2.2.2.2.2.1 bt735.2.2.2.2.2.2.2.2.2.2.2.1 bt735.2.2.2.2.2.2.2.2.2.2.2.2.1 bt735.2.2.2.2.2.2.2.2.2.2.2.2.2.1 bt735.2.2.2.2.2.2.2.2.2.2.2.2.2.2.1 bt735.2.2.2.2.2.2.2.2.2.2.2.2.2.2.2.1 bt735.2.2.2.2.2.2.2.2.2.2.2.2.2.2.2.2.1 bt735.2.2.2.2.2.2.2.2.2.2.2.2.2.2.2.2.2.1)))
theorem headgatelaw18_WireOnly.mono_l : ∀ k, (∀ y0 y1 y2 y3 y4 y5 y6 y7 y8 y9 y10 y11 y12 y13 y14 y15 y16 y17 y18 y19, LeO (headgatelaw18_WireOnly.j0 k y0 y1 y2 y3 y4 y5 y6 y7 y8 y9 y10 y11 y12 y13 y14 y15 y16 y17 y18 y19) (headgatelaw18_WireOnly.j0 (k + 1) y0 y1 y2 y3 y4 y5 y6 y7 y8 y9 y10 y11 y12 y13 y14 y15 y16 y17 y18 y19)) ∧ (∀ y0 y1 y2 y3 y4 y5 y6 y7 y8 y9 y10 y11 y12 y13 y14 y15 y16 y17 y18 y19 y20 y21 y22 y23 y24 y25 y26, LeO (headgatelaw18_WireOnly.j1 k y0 y1 y2 y3 y4 y5 y6 y7 y8 y9 y10 y11 y12 y13 y14 y15 y16 y17 y18 y19 y20 y21 y22 y23 y24 y25 y26) (headgatelaw18_WireOnly.j1 (k + 1) y0 y1 y2 y3 y4 y5 y6 y7 y8 y9 y10 y11 y12 y13 y14 y15 y16 y17 y18 y19 y20 y21 y22 y23 y24 y25 y26))
  | 0 => ⟨fun _ _ _ _ _ _ _ _ _ _ _ _ _ _ _ _ _ _ _ _ r h => by simp [headgatelaw18_WireOnly.j0] at h, fun _ _ _ _ _ _ _ _ _ _ _ _ _ _ _ _ _ _ _ _ _ _ _ _ _ _ _ r h => by simp [headgatelaw18_WireOnly.j1] at h⟩
  | k + 1 => by
    obtain ⟨ih0, ih1⟩ := headgatelaw18_WireOnly.mono_l k
    refine ⟨?_, ?_⟩
    · intro y0 y1 y2 y3 y4 y5 y6 y7 y8 y9 y10 y11 y12 y13 y14 y15 y16 y17 y18 y19
      unfold headgatelaw18_WireOnly.j0
      repeat' first
      | (with_reducible exact ih0 _ _ _ _ _ _ _ _ _ _ _ _ _ _ _ _ _ _ _ _)
      | (with_reducible exact ih1 _ _ _ _ _ _ _ _ _ _ _ _ _ _ _ _ _ _ _ _ _ _ _ _ _ _ _)
      | (with_reducible exact headgatelaw18_awake.mono _)
      | (with_reducible exact headgateref18_SameAsk.mono _ _ _ _ _ _ _ _ _ _ _ _ _ _ _ _ _ _ _ _ _ _ _ _ _ _ _ _ _ _ _ _ _ _ _ _ _)
      | (with_reducible exact headgateref18_SameReply.mono _ _ _ _ _ _ _ _ _ _ _ _ _)
      | (with_reducible exact wire_DecodeAsk.mono _ _)
      | (with_reducible exact wire_DecodeReply.mono _ _)
      | (with_reducible exact wire_EncodeAsk.mono _ _ _ _ _ _ _ _ _ _ _ _ _ _ _ _ _ _ _)
      | (with_reducible exact wire_EncodeReply.mono _ _ _ _ _ _ _)
      | (with_reducible exact LeO.refl _)
      | (with_reducible exact LeO.none _)
      | (with_reducible refine LeO.ite ?_ ?_)
      | (with_reducible refine LeO.bind ?_ (fun _ => ?_))
      | exact ih0 _ _ _ _ _ _ _ _ _ _ _ _ _ _ _ _ _ _ _ _
      | exact ih1 _ _ _ _ _ _ _ _ _ _ _ _ _ _ _ _ _ _ _ _ _ _ _ _ _ _ _
      | exact headgatelaw18_awake.mono _
      | exact headgateref18_SameAsk.mono _ _ _ _ _ _ _ _ _ _ _ _ _ _ _ _ _ _ _ _ _ _ _ _ _ _ _ _ _ _ _ _ _ _ _ _ _
      | exact headgateref18_SameReply.mono _ _ _ _ _ _ _ _ _ _ _ _ _
      | exact wire_DecodeAsk.mono _ _
      | exact wire_DecodeReply.mono _ _
      | exact wire_EncodeAsk.mono _ _ _ _ _ _ _ _ _ _ _ _ _ _ _ _ _ _ _
      | exact wire_EncodeReply.mono _ _ _ _ _ _ _
      | exact LeO.none _
      | refine LeO.ite ?_ ?_
      | refine LeO.bind ?_ (fun _ => ?_)
    · intro y0 y1 y2 y3 y4 y5 y6 y7 y8 y9 y10 y11 y12 y13 y14 y15 y16 y17 y18 y19 y20 y21 y22 y23 y24 y25 y26
      unfold headgatelaw18_WireOnly.j1
      repeat' first
      | (with_reducible exact ih0 _ _ _ _ _ _ _ _ _ _ _ _ _ _ _ _ _ _ _ _)
      | (with_reducible exact ih1 _ _ _ _ _ _ _ _ _ _ _ _ _ _ _ _ _ _ _ _ _ _ _ _ _ _ _)
      | (with_reducible exact headgatelaw18_awake.mono _)
      | (with_reducible exact headgateref18_SameAsk.mono _ _ _ _ _ _ _ _ _ _ _ _ _ _ _ _ _ _ _ _ _ _ _ _ _ _ _ _ _ _ _ _ _ _ _ _ _)
      | (with_reducible exact headgateref18_SameReply.mono _ _ _ _ _ _ _ _ _ _ _ _ _)
      | (with_reducible exact wire_DecodeAsk.mono _ _)
      | (with_reducible exact wire_DecodeReply.mono _ _)
      | (with_reducible exact wire_EncodeAsk.mono _ _ _ _ _ _ _ _ _ _ _ _ _ _ _ _ _ _ _)
      | (with_reducible exact wire_EncodeReply.mono _ _ _ _ _ _ _)
      | (with_reducible exact LeO.refl _)
      | (with_reducible exact LeO.none _)
      | (with_reducible refine LeO.ite ?_ ?_)
      | (with_reducible refine LeO.bind ?_ (fun _ => ?_))
      | exact ih0 _ _ _ _ _ _ _ _ _ _ _ _ _ _ _ _ _ _ _ _
      | exact ih1 _ _ _ _ _ _ _ _ _ _ _ _ _ _ _ _ _ _ _ _ _ _ _ _ _ _ _
      | exact headgatelaw18_awake.mono _
      | exact headgateref18_SameAsk.mono _ _ _ _ _ _ _ _ _ _ _ _ _ _ _ _ _ _ _ _ _ _ _ _ _ _ _ _ _ _ _ _ _ _ _ _ _
      | exact headgateref18_SameReply.mono _ _ _ _ _ _ _ _ _ _ _ _ _
      | exact wire_DecodeAsk.mono _ _
      | exact wire_DecodeReply.mono _ _
      | exact wire_EncodeAsk.mono _ _ _ _ _ _ _ _ _ _ _ _ _ _ _ _ _ _ _
      | exact wire_EncodeReply.mono _ _ _ _ _ _ _
      | exact LeO.none _
      | refine LeO.ite ?_ ?_
      | refine LeO.bind ?_ (fun _ => ?_)
theorem headgatelaw18_WireOnly.mono : ∀ a0 k, LeO (headgatelaw18_WireOnly.f k a0) (headgatelaw18_WireOnly.f (k + 1) a0) := by
  intro a0 k
  obtain ⟨ih0, ih1⟩ := headgatelaw18_WireOnly.mono_l k
  unfold headgatelaw18_WireOnly.f
  repeat' first
      | (with_reducible exact ih0 _ _ _ _ _ _ _ _ _ _ _ _ _ _ _ _ _ _ _ _)
      | (with_reducible exact ih1 _ _ _ _ _ _ _ _ _ _ _ _ _ _ _ _ _ _ _ _ _ _ _ _ _ _ _)
      | (with_reducible exact headgatelaw18_awake.mono _)
      | (with_reducible exact headgateref18_SameAsk.mono _ _ _ _ _ _ _ _ _ _ _ _ _ _ _ _ _ _ _ _ _ _ _ _ _ _ _ _ _ _ _ _ _ _ _ _ _)
      | (with_reducible exact headgateref18_SameReply.mono _ _ _ _ _ _ _ _ _ _ _ _ _)
      | (with_reducible exact wire_DecodeAsk.mono _ _)
      | (with_reducible exact wire_DecodeReply.mono _ _)
      | (with_reducible exact wire_EncodeAsk.mono _ _ _ _ _ _ _ _ _ _ _ _ _ _ _ _ _ _ _)
      | (with_reducible exact wire_EncodeReply.mono _ _ _ _ _ _ _)
      | (with_reducible exact LeO.refl _)
      | (with_reducible exact LeO.none _)
      | (with_reducible refine LeO.ite ?_ ?_)
      | (with_reducible refine LeO.bind ?_ (fun _ => ?_))
      | exact ih0 _ _ _ _ _ _ _ _ _ _ _ _ _ _ _ _ _ _ _ _
      | exact ih1 _ _ _ _ _ _ _ _ _ _ _ _ _ _ _ _ _ _ _ _ _ _ _ _ _ _ _
      | exact headgatelaw18_awake.mono _
      | exact headgateref18_SameAsk.mono _ _ _ _ _ _ _ _ _ _ _ _ _ _ _ _ _ _ _ _ _ _ _ _ _ _ _ _ _ _ _ _ _ _ _ _ _
      | exact headgateref18_SameReply.mono _ _ _ _ _ _ _ _ _ _ _ _ _
      | exact wire_DecodeAsk.mono _ _
      | exact wire_DecodeReply.mono _ _
      | exact wire_EncodeAsk.mono _ _ _ _ _ _ _ _ _ _ _ _ _ _ _ _ _ _ _
      | exact wire_EncodeReply.mono _ _ _ _ _ _ _
      | exact LeO.none _
      | refine LeO.ite ?_ ?_
      | refine LeO.bind ?_ (fun _ => ?_)
set_option maxHeartbeats 8000000 in
set_option maxRecDepth 100000 in
theorem headgatelaw18_WireOnly.calls (k : Nat) (a0 : ByteArray) (r : Bool) (w : World) (h : headgatelaw18_WireOnly.f k a0 = some r) (hT_ : r = true) :
    Calls Try.prog 6 #[.string a0] w fun e w' => e = .returned (.bool r) ∧ Below w.heap.size w w' := by
 have hu43 := Try.underlying43
 have hu26 := Try.underlying26
 have HB := Aside0.mk (Below.refl w.heap.size w)
 have H : (if (a0.size : Int) > 5000 then ((headgatelaw18_awake.f k).bind fun t734 => (some t734)) else ((wire_DecodeAsk.f k a0).bind fun bt735 => (if bt735.2.2.2.2.2.2.2.2.2.2.2.2.2.2.2.2.2.2 = 0 then ((wire_EncodeAsk.f k bt735.1 bt735.2.1 bt735.2.2.1 bt735.2.2.2.1 bt735.2.2.2.2.1 bt735.2.2.2.2.2.1 bt735.2.2.2.2.2.2.1 bt735.2.2.2.2.2.2.2.1 bt735.2.2.2.2.2.2.2.2.1 bt735.2.2.2.2.2.2.2.2.2.1 bt735.2.2.2.2.2.2.2.2.2.2.1 bt735.2.2.2.2.2.2.2.2.2.2.2.1 bt735.2.2.2.2.2.2.2.2.2.2.2.2.1 bt735.2.2.2.2.2.2.2.2.2.2.2.2.2.1 bt735.2.2.2.2.2.2.2.2.2.2.2.2.2.2.1 bt735.2.2.2.2.2.2.2.2.2.2.2.2.2.2.2.1 bt735.2.2.2.2.2.2.2.2.2.2.2.2.2.2.2.2.1 bt735.2.2.2.2.2.2.2.2.2.2.2.2.2.2.2.2.2.1).bind fun bt757 => (if bt757.2 = 0 then (if bt757.1.toList = a0.toList then (headgatelaw18_WireOnly.j0 k a0 bt735.2.2.2.2.2.2.2.2.2.2.2.2.2.2.2.2.2.2 bt735.1 bt735.2.1 bt735.2.2.1 bt735.2.2.2.1 bt735.2.2.2.2.1 bt735.2.2.2.2.2.1 bt735.2.2.2.2.2.2.1 bt735.2.2.2.2.2.2.2.1 bt735.2.2.2.2.2.2.2.2.1 bt735.2.2.2.2.2.2.2.2.2.1 bt735.2.2.2.2.2.2.2.2.2.2.1 bt735.2.2.2.2.2.2.2.2.2.2.2.1 bt735.2.2.2.2.2.2.2.2.2.2.2.2.1 bt735.2.2.2.2.2.2.2.2.2.2.2.2.2.1 bt735.2.2.2.2.2.2.2.2.2.2.2.2.2.2.1 bt735.2.2.2.2.2.2.2.2.2.2.2.2.2.2.2.1 bt735.2.2.2.2.2.2.2.2.2.2.2.2.2.2.2.2.1 bt735.2.2.2.2.2.2.2.2.2.2.2.2.2.2.2.2.2.1) else (some false)) else (some false))) else (headgatelaw18_WireOnly.j0 k a0 bt735.2.2.2.2.2.2.2.2.2.2.2.2.2.2.2.2.2.2 bt735.1 bt735.2.1 bt735.2.2.1 bt735.2.2.2.1 bt735.2.2.2.2.1 bt735.2.2.2.2.2.1 bt735.2.2.2.2.2.2.1 bt735.2.2.2.2.2.2.2.1 bt735.2.2.2.2.2.2.2.2.1 bt735.2.2.2.2.2.2.2.2.2.1 bt735.2.2.2.2.2.2.2.2.2.2.1 bt735.2.2.2.2.2.2.2.2.2.2.2.1 bt735.2.2.2.2.2.2.2.2.2.2.2.2.1 bt735.2.2.2.2.2.2.2.2.2.2.2.2.2.1 bt735.2.2.2.2.2.2.2.2.2.2.2.2.2.2.1 bt735.2.2.2.2.2.2.2.2.2.2.2.2.2.2.2.1 bt735.2.2.2.2.2.2.2.2.2.2.2.2.2.2.2.2.1 bt735.2.2.2.2.2.2.2.2.2.2.2.2.2.2.2.2.2.1)))) = some r := h
 clear h
 by_cases c2 : (a0.size : Int) > 5000
 ·rw [if_pos c2] at H
  have c2b0 : decide (5000 < (a0.size : Int)) = true := decide_eq_true c2
  have c2b1 : decide (5000 < a0.size) = true := decide_eq_true (by omega)
  clear c2
  replace H := Option.bind_eq_some_iff.mp H
  obtain ⟨t734, A30, H⟩ := H
  replace H : (some t734) = some r := H
  have A3 := Aside0.mk A30
  clear A30
  obtain rfl := Option.some.inj H
  go_enter Try.func6, Try.ntmps6
  go_wp2_with (first | ((with_reducible refine gate_callee (f := 9) rfl ?_); refine goesL_ (some 14) rfl rfl Try.func9 (by kernel_rfl) rfl #[] rfl Zz.g ?_; (with_reducible refine (headgatelaw18_awake.calls k  t734 _ A3.out).mono ?_); rintro e w4 ⟨rfl, hb⟩; refine ⟨_, rfl, ?_⟩; replace HB := Aside0.mk (below_step (Zz.i HB.out) hb); (try clear hb)))
  go_ret
  exact ⟨by first | rfl | (simp [errW_none, errW_some] <;> rfl) | (simp [*, errW_none, errW_some] <;> rfl), by repeat (first | (with_reducible first | exact HB.out | apply below_alloc | apply pw_below_drewN | apply below_drew1) | exact HB.out)⟩
 rw [if_neg c2] at H
 have c2b0 : decide (5000 < (a0.size : Int)) = false := decide_eq_false c2
 have c2b1 : decide (5000 < a0.size) = false := decide_eq_false (by omega)
 clear c2
 replace H := Option.bind_eq_some_iff.mp H
 obtain ⟨⟨t735, t736, t737, t738, t739, t740, t741, t742, t743, t744, t745, t746, t747, t748, t749, t750, t751, t752, t755⟩, A50, H⟩ := H
 replace H : (if t755 = 0 then ((wire_EncodeAsk.f k t735 t736 t737 t738 t739 t740 t741 t742 t743 t744 t745 t746 t747 t748 t749 t750 t751 t752).bind fun bt757 => (if bt757.2 = 0 then (if bt757.1.toList = a0.toList then (headgatelaw18_WireOnly.j0 k a0 t755 t735 t736 t737 t738 t739 t740 t741 t742 t743 t744 t745 t746 t747 t748 t749 t750 t751 t752) else (some false)) else (some false))) else (headgatelaw18_WireOnly.j0 k a0 t755 t735 t736 t737 t738 t739 t740 t741 t742 t743 t744 t745 t746 t747 t748 t749 t750 t751 t752)) = some r := H
 have A5 := Aside0.mk A50
 clear A50
 have HC6 := Aside0.mk H
 clear H
 go_enter Try.func6, Try.ntmps6
 go_upto_if 21 with (first | ((with_reducible refine gate_callee (f := 18) rfl ?_); refine goesL_ (some 17) rfl rfl Try.func18 (by kernel_rfl) rfl #[.string a0] rfl Zz.g ?_; (with_reducible refine (wire_DecodeAsk.calls k a0 t735 t736 t737 t738 t739 t740 t741 t742 t743 t744 t745 t746 t747 t748 t749 t750 t751 t752 t755 _ A5.out).mono ?_); rintro e w7 ⟨v753, rfl, ho0, hb⟩; refine ⟨_, rfl, ?_⟩; have HO754 := Aside0.mk (Kd.R_lower ho0 (below_size (Zz.i HB.out))); replace HB := Aside0.mk (below_step (Zz.i HB.out) hb); (try clear hb); (try clear ho0)) | ((with_reducible refine gate_dst (N := 3) rfl ?_); refine box_event ?hg (N := 3) ?hd (cs := #[.int .i64 0, .int .i64 0, .int .i64 0, .int .i64 0, .int .i64 0, .int .i64 0, .int .i64 0, .int .i64 0, .int .i64 0, .int .i64 0, .int .i64 0, .int .i64 0, .bool false, .int .i64 0, .int .i64 0, .int .i64 0, .int .i64 0, .slice none 0 0]) (t := 43) ?hr ?_; (case hd => rfl); (case hg => rfl); (case hr => first | (go_simp; done) | (go_simp; rfl)); intro gb756 hg w8 hbox hb; replace HO754 := Aside0.mk (Kd.R_below (Zz.r HO754.out) hb); have BK756 := Aside0.mk (hbox); have GW756 := Aside0.mk (Zz.ge hg HB.out); have GE756 := Aside0.mk (Zz.ge hg HB.out); replace HB := Aside0.mk (below_step (Zz.i HB.out) hb); clear hb hbox hg; have hcz9 := Zz.c18 BK756.out; have hfz9 := blk_frozen BK756.out; obtain ⟨Ao10, co10, eo10⟩ := Kd.R_slice HO754.out; subst eo10; have hld_10 := Kl.put BK756.out (.int .i64 t735) (.int .i64 t736) (.int .i64 t737) (.int .i64 t738) (.int .i64 t739) (.int .i64 t740) (.int .i64 t741) (.int .i64 t742) (.int .i64 t743) (.int .i64 t744) (.int .i64 t745) (.int .i64 t746) (.bool t747) (.int .i64 t748) (.int .i64 t749) (.int .i64 t750) (.int .i64 t751) (.slice Ao10 t752.length co10)))
 (try simp only [Act.put, List.setIfInBounds_toArray, List.set_cons_zero, List.set_cons_succ])
 go_cut [] (fun wc => ∃ (kq : Nat), Aside0 (headgatelaw18_WireOnly.j0 kq a0 t755 t735 t736 t737 t738 t739 t740 t741 t742 t743 t744 t745 t746 t747 t748 t749 t750 t751 t752 = some r) ∧ Aside0 (kq ≤ k) ∧ Aside0 (Kd.R k57 57 wc w.heap.size (fun _ => True) (.slice Ao10 t752.length co10) t752) ∧ Aside0 (wc.heap[gb756]? = some (.cells #[.int .i64 t735, .int .i64 t736, .int .i64 t737, .int .i64 t738, .int .i64 t739, .int .i64 t740, .int .i64 t741, .int .i64 t742, .int .i64 t743, .int .i64 t744, .int .i64 t745, .int .i64 t746, .bool t747, .int .i64 t748, .int .i64 t749, .int .i64 t750, .int .i64 t751, (.slice Ao10 t752.length co10)] 43 (0, 0))) ∧ Aside0 (Below w.heap.size w wc))
 case first =>
  have H := HC6.out
  clear HC6
  by_cases c11 : t755 = 0
  ·rw [if_pos c11] at H
   have c11b0 : (t755 == 0) = true := beq_iff_eq.mpr c11
   have c11b1 : (t755 != 0) = false := bne_eq_false_iff_eq.mpr c11
   clear c11
   (first | rw [c11b0] | rw [c11b9] | (simp only [i64_w, i32_w]; rw [c11b0]) | skip)
   replace H := Option.bind_eq_some_iff.mp H
   obtain ⟨⟨t757, t758⟩, A120, H⟩ := H
   replace H : (if t758 = 0 then (if t757.toList = a0.toList then (headgatelaw18_WireOnly.j0 k a0 t755 t735 t736 t737 t738 t739 t740 t741 t742 t743 t744 t745 t746 t747 t748 t749 t750 t751 t752) else (some false)) else (some false)) = some r := H
   have A12 := Aside0.mk A120
   clear A120
   by_cases c13 : t758 = 0
   ·rw [if_pos c13] at H
    have c13b0 : (t758 == 0) = true := beq_iff_eq.mpr c13
    have c13b1 : (t758 != 0) = false := bne_eq_false_iff_eq.mpr c13
    clear c13
    by_cases c14 : t757.toList = a0.toList
    ·rw [if_pos c14] at H
     have c14b0 : (t757.toList == a0.toList) = true := beq_iff_eq.mpr c14
     have c14b1 : (t757.toList != a0.toList) = false := bne_eq_false_iff_eq.mpr c14
     clear c14
     have H' := Aside0.mk H
     clear H
     have hcz15 := Zz.c18 BK756.out
     have hfz15 := blk_frozen BK756.out
     go_wp2_with (first | ((with_reducible refine gate_callee (f := 16) rfl ?_); refine goesL_ (some 24) rfl rfl Try.func16 (by kernel_rfl) rfl #[.agg #[.int .i64 t735, .int .i64 t736, .int .i64 t737, .int .i64 t738, .int .i64 t739, .int .i64 t740, .int .i64 t741, .int .i64 t742, .int .i64 t743, .int .i64 t744, .int .i64 t745, .int .i64 t746, .bool t747, .int .i64 t748, .int .i64 t749, .int .i64 t750, .int .i64 t751, .slice Ao10 t752.length co10]] rfl Zz.g ?_; (with_reducible refine (wire_EncodeAsk.calls k t735 t736 t737 t738 t739 t740 t741 t742 t743 t744 t745 t746 t747 t748 t749 t750 t751 _ _ t752 t757 t758 _ ?side1 ?side2 A12.out).mono ?_); (case side1 => refine (Kd.R_reads' (e := 57) (base := w.heap.size) (ok := fun k_ => True) (n := t752.length) (c := co10) ?_).2.2; exact (by (with_reducible repeat (first | apply Kd.R_alloc | apply Kd.R_drewN | apply Kd.R_drew)); exact (Kd.R_mono (Zz.f18 (Kd.R_types HO754.out BK756.out (by decide)) (fun _ hk => hk.2)) (fun _ h_ => h_.1)))); (case side2 => exact (Kd.R_reads' HO754.out).2.1); rintro e w16 ⟨rfl, hb⟩; refine ⟨_, rfl, ?_⟩; have n0_ := Aside0.mk (Kd.R_below (by (with_reducible repeat (first | apply Kd.R_alloc | apply Kd.R_drewN | apply Kd.R_drew)); exact (Kd.R_mono (Zz.f18 (Kd.R_types HO754.out BK756.out (by decide)) (fun _ hk => hk.2)) (fun _ h_ => h_.1))) hb); have n1_ := Aside0.mk (blk_below (g := gb756) (o := .cells #[.int .i64 t735, .int .i64 t736, .int .i64 t737, .int .i64 t738, .int .i64 t739, .int .i64 t740, .int .i64 t741, .int .i64 t742, .int .i64 t743, .int .i64 t744, .int .i64 t745, .int .i64 t746, .bool t747, .int .i64 t748, .int .i64 t749, .int .i64 t750, .int .i64 t751, .slice Ao10 t752.length co10] 43 (0, 0)) (by (with_reducible repeat (first | refine blk_drewN ?_ _ | refine blk_drew ?_ | refine blk_alloc ?_ _)); exact Zz.u18_0_17 BK756.out) hb); have n2_ := Aside0.mk (below_step (Zz.i HB.out) hb); clear HO754; clear BK756; clear HB; have HO754 := n0_; have BK756 := n1_; have HB := n2_; clear n0_ n1_ n2_; (try clear hb); (try clear hk)))
     go_meet
     case rel => exact ⟨_, H', ⟨by first | omega | exact Nat.le_refl _⟩, ⟨Zz.r HO754.out⟩, ⟨Zz.p BK756.out⟩, ⟨by repeat (first | (with_reducible first | exact HB.out | apply below_alloc | apply pw_below_drewN | apply below_drew1 | refine below_set ?_ GE756.out) | exact HB.out)⟩⟩
    rw [if_neg c14] at H
    have c14b0 : (t757.toList == a0.toList) = false := beq_eq_false_iff_ne.mpr c14
    have c14b1 : (t757.toList != a0.toList) = true := bne_iff_ne.mpr c14
    obtain rfl := Option.some.inj H
    exact absurd hT_ Bool.false_ne_true
   rw [if_neg c13] at H
   have c13b0 : (t758 == 0) = false := beq_eq_false_iff_ne.mpr c13
   have c13b1 : (t758 != 0) = true := bne_iff_ne.mpr c13
   obtain rfl := Option.some.inj H
   exact absurd hT_ Bool.false_ne_true
  rw [if_neg c11] at H
  have c11b0 : (t755 == 0) = false := beq_eq_false_iff_ne.mpr c11
  have c11b1 : (t755 != 0) = true := bne_iff_ne.mpr c11
  (first | rw [c11b0] | rw [c11b9] | (simp only [i64_w, i32_w]; rw [c11b0]) | skip)
  have H' := Aside0.mk H
  clear H
  go_wp2
  go_meet
  case rel => exact ⟨_, H', ⟨by first | omega | exact Nat.le_refl _⟩, ⟨by (with_reducible repeat (first | apply Kd.R_alloc | apply Kd.R_drewN | apply Kd.R_drew)); exact Kd.R_mono (Zz.f18 (Kd.R_types HO754.out BK756.out (by decide)) (fun _ hk => hk.2)) (fun _ hk => trivial)⟩, ⟨by (with_reducible repeat (first | refine blk_drewN ?_ _ | refine blk_drew ?_ | refine blk_alloc ?_ _)); exact Zz.u18_0_17 BK756.out⟩, ⟨by repeat (first | (with_reducible first | exact HB.out | apply below_alloc | apply pw_below_drewN | apply below_drew1 | refine below_set ?_ GE756.out) | exact HB.out)⟩⟩
 clear HC6
 (try clear c1);(try clear c2);(try clear c2b0);(try clear c2b1);(try clear p2);(try clear c6);(try clear c9);(try clear c11);(try clear c11b0);(try clear c11b1);(try clear c13);(try clear c13b0);(try clear c13b1);(try clear c14);(try clear c14b0);(try clear c14b1);(try clear c16);(try clear c18);(try clear hcz15);(try clear hcz17);(try clear hcz19);(try clear hcz9);(try clear hfz15);(try clear hfz17);(try clear hfz19);(try clear hfz9)
 obtain ⟨kq, HA, HJ5, HO_757017, BK756, HB⟩ := hcut
 cases kq with
 | zero => exact absurd HA.out (by simp [headgatelaw18_WireOnly.j0])
 | succ kj5 =>
  have H := HA.out
  clear HA
  simp only [headgatelaw18_WireOnly.j0] at H
  replace H := Option.bind_eq_some_iff.mp H
  obtain ⟨⟨t759, t760, t761, t762, t763, t766, t769⟩, A210, H⟩ := H
  replace H : (if t769 = 0 then ((wire_EncodeReply.f kj5 t759 t760 t761 t762 t763 t766).bind fun bt771 => (if bt771.2 = 0 then (headgatelaw18_WireOnly.j1 kj5 t755 t769 (bt771.1.toList != a0.toList) t735 t736 t737 t738 t739 t740 t741 t742 t743 t744 t745 t746 t747 t748 t749 t750 t751 t752 t759 t760 t761 t762 t763 t766) else (headgatelaw18_WireOnly.j1 kj5 t755 t769 true t735 t736 t737 t738 t739 t740 t741 t742 t743 t744 t745 t746 t747 t748 t749 t750 t751 t752 t759 t760 t761 t762 t763 t766))) else (if t755 = 0 then (if t769 = 2 then ((headgateref18_SameReply.f kj5 t759 t760 t761 t762 t763 t766 0 0 0 0 ([] : List Int) ([] : List (S59))).bind fun t780 => (if t780 = true then ((headgatelaw18_awake.f kj5).bind fun t781 => (some t781)) else (some false))) else (some false)) else (if t755 = 2 then ((headgateref18_SameAsk.f kj5 t735 t736 t737 t738 t739 t740 t741 t742 t743 t744 t745 t746 t747 t748 t749 t750 t751 t752 0 0 0 0 0 0 0 0 0 0 0 0 false 0 0 0 0 ([] : List (S57))).bind fun t782 => (if t782 = true then (if t769 = 2 then ((headgateref18_SameReply.f kj5 t759 t760 t761 t762 t763 t766 0 0 0 0 ([] : List Int) ([] : List (S59))).bind fun t783 => (if t783 = true then ((headgatelaw18_awake.f kj5).bind fun t784 => (some t784)) else (some false))) else (some false)) else (some false))) else (some false)))) = some r := H
  have A21 := Aside0.mk A210
  clear A210
  by_cases c22 : t769 = 0
  ·rw [if_pos c22] at H
   have c22b0 : (t769 == 0) = true := beq_iff_eq.mpr c22
   have c22b1 : (t769 != 0) = false := bne_eq_false_iff_eq.mpr c22
   clear c22
   replace H := Option.bind_eq_some_iff.mp H
   obtain ⟨⟨t771, t772⟩, A230, H⟩ := H
   replace H : (if t772 = 0 then (headgatelaw18_WireOnly.j1 kj5 t755 t769 (t771.toList != a0.toList) t735 t736 t737 t738 t739 t740 t741 t742 t743 t744 t745 t746 t747 t748 t749 t750 t751 t752 t759 t760 t761 t762 t763 t766) else (headgatelaw18_WireOnly.j1 kj5 t755 t769 true t735 t736 t737 t738 t739 t740 t741 t742 t743 t744 t745 t746 t747 t748 t749 t750 t751 t752 t759 t760 t761 t762 t763 t766)) = some r := H
   have A23 := Aside0.mk A230
   clear A230
   have HC24 := Aside0.mk H
   clear H
   go_upto_region 11 with (first | ((with_reducible refine gate_callee (f := 12) rfl ?_); refine goesL_ (some 36) rfl rfl Try.func12 (by kernel_rfl) rfl #[.string a0] rfl Zz.g ?_; (with_reducible refine (wire_DecodeReply.calls kj5 a0 t759 t760 t761 t762 t763 t766 t769 _ A21.out).mono ?_); rintro e w25 ⟨v764, v767, rfl, ho0, ho1, hb⟩; refine ⟨_, rfl, ?_⟩; replace HO_757017 := Aside0.mk (Kd.R_below (Zz.r HO_757017.out) hb); have HO765 := Aside0.mk (Kd.R_lower ho0 (below_size (Zz.i HB.out))); have HO768 := Aside0.mk (Kd.R_lower ho1 (below_size (Zz.i HB.out))); replace BK756 := Aside0.mk (Zz.bb BK756.out hb); replace HB := Aside0.mk (below_step (Zz.i HB.out) hb); (try clear hb); (try clear ho0); (try clear ho1)) | ((with_reducible refine gate_dst (N := 7) rfl ?_); refine box_event ?hg (N := 7) ?hd (cs := #[.int .i64 0, .int .i64 0, .int .i64 0, .int .i64 0, .slice none 0 0, .slice none 0 0]) (t := 26) ?hr ?_; (case hd => rfl); (case hg => rfl); (case hr => first | (go_simp; done) | (go_simp; rfl)); intro gb770 hg w26 hbox hb; replace HO_757017 := Aside0.mk (Kd.R_below (Zz.r HO_757017.out) hb); replace HO765 := Aside0.mk (Kd.R_below (Zz.r HO765.out) hb); replace HO768 := Aside0.mk (Kd.R_below (Zz.r HO768.out) hb); have BK770 := Aside0.mk (hbox); have GW770 := Aside0.mk (Zz.ge hg HB.out); have GE770 := Aside0.mk (Zz.ge hg HB.out); replace HB := Aside0.mk (below_step (Zz.i HB.out) hb); have NB756_770 := Aside0.mk (Zz.nl hg BK756.out); have NB770_756 := Aside0.mk (Zz.ng hg BK756.out); replace BK756 := Aside0.mk (Zz.bb BK756.out hb); clear hb hbox hg; have hnb27 := NB770_756.out; have hnc27 := NB756_770.out; have hcz28 := Zz.c6 BK770.out; have hfz28 := blk_frozen BK770.out; obtain ⟨Ao29, co29, eo29⟩ := Kd.R_slice HO765.out; subst eo29; obtain ⟨Ao30, co30, eo30⟩ := Kd.R_slice HO768.out; subst eo30) | ((with_reducible refine gate_callee (f := 10) rfl ?_); refine goesL_ (some 43) rfl rfl Try.func10 (by kernel_rfl) rfl #[.agg #[.int .i64 t759, .int .i64 t760, .int .i64 t761, .int .i64 t762, .slice Ao29 t763.length co29, .slice Ao30 t766.length co30]] rfl Zz.g ?_; (with_reducible refine (wire_EncodeReply.calls kj5 t759 t760 t761 t762 _ _ t763 _ _ t766 t771 t772 _ ?side1 ?side2 ?side3 ?side4 A23.out).mono ?_); (case side1 => refine (Kd.R_reads' (e := 3) (base := w.heap.size) (ok := fun k_ => True) (n := t763.length) (c := co29) ?_).2.2; exact (by (with_reducible repeat (first | apply Kd.R_alloc | apply Kd.R_drewN | apply Kd.R_drew)); exact (Kd.R_mono (Zz.f6 (Kd.R_types HO765.out BK770.out (by decide)) (fun _ hk => hk.2)) (fun _ h_ => h_.1)))); (case side2 => exact (Kd.R_reads' HO765.out).2.1); (case side3 => refine (Kd.R_reads' (e := 59) (base := w.heap.size) (ok := fun k_ => True) (n := t766.length) (c := co30) ?_).2.2; exact (by (with_reducible repeat (first | apply Kd.R_alloc | apply Kd.R_drewN | apply Kd.R_drew)); exact (Kd.R_mono (Zz.f6 (Kd.R_types HO768.out BK770.out (by decide)) (fun _ hk => hk.2)) (fun _ h_ => h_.1)))); (case side4 => exact (Kd.R_reads' HO768.out).2.1); rintro e w31 ⟨rfl, hb⟩; refine ⟨_, rfl, ?_⟩; have n0_ := Aside0.mk (Kd.R_below (by (with_reducible repeat (first | apply Kd.R_alloc | apply Kd.R_drewN | apply Kd.R_drew)); exact (Kd.R_mono (Zz.f6 (Kd.R_types HO_757017.out BK770.out (by decide)) (fun _ hk => hk.2)) (fun _ h_ => h_.1))) hb); have n1_ := Aside0.mk (Kd.R_below (by (with_reducible repeat (first | apply Kd.R_alloc | apply Kd.R_drewN | apply Kd.R_drew)); exact (Kd.R_mono (Zz.f6 (Kd.R_types HO765.out BK770.out (by decide)) (fun _ hk => hk.2)) (fun _ h_ => h_.1))) hb); have n2_ := Aside0.mk (Kd.R_below (by (with_reducible repeat (first | apply Kd.R_alloc | apply Kd.R_drewN | apply Kd.R_drew)); exact (Kd.R_mono (Zz.f6 (Kd.R_types HO768.out BK770.out (by decide)) (fun _ hk => hk.2)) (fun _ h_ => h_.1))) hb); have n3_ := Aside0.mk (blk_below (g := gb756) (o := .cells #[.int .i64 t735, .int .i64 t736, .int .i64 t737, .int .i64 t738, .int .i64 t739, .int .i64 t740, .int .i64 t741, .int .i64 t742, .int .i64 t743, .int .i64 t744, .int .i64 t745, .int .i64 t746, .bool t747, .int .i64 t748, .int .i64 t749, .int .i64 t750, .int .i64 t751, .slice Ao10 t752.length co10] 43 (0, 0)) (by exact Zz.q6 BK756.out NB756_770.out) hb); have n4_ := Aside0.mk (blk_below (g := gb770) (o := .cells #[.int .i64 t759, .int .i64 t760, .int .i64 t761, .int .i64 t762, .slice Ao29 t763.length co29, .slice Ao30 t766.length co30] 26 (0, 0)) (by (with_reducible repeat (first | refine blk_drewN ?_ _ | refine blk_drew ?_ | refine blk_alloc ?_ _)); exact Zz.u6_0_5 BK770.out) hb); have n5_ := Aside0.mk (below_step (Zz.i HB.out) hb); clear HO_757017; clear HO765; clear HO768; clear BK756; clear BK770; clear HB; have HO_757017 := n0_; have HO765 := n1_; have HO768 := n2_; have BK756 := n3_; have BK770 := n4_; have HB := n5_; clear n0_ n1_ n2_ n3_ n4_ n5_; (try clear hb); (try clear hk)))
   (try simp only [Act.put, List.setIfInBounds_toArray, List.set_cons_zero, List.set_cons_succ])
   go_cut [52] (fun v52 wc => ∃ (kq : Nat) (x52_23 : Bool), v52 = .bool x52_23 ∧ Aside0 (headgatelaw18_WireOnly.j1 kq t755 t769 x52_23 t735 t736 t737 t738 t739 t740 t741 t742 t743 t744 t745 t746 t747 t748 t749 t750 t751 t752 t759 t760 t761 t762 t763 t766 = some r) ∧ Aside0 (kq ≤ kj5) ∧ Aside0 (Kd.R k57 57 wc w.heap.size (fun _ => True) (.slice Ao10 t752.length co10) t752) ∧ Aside0 (Kd.R (Kd.int .i64) 3 wc w.heap.size (fun _ => True) (.slice Ao29 t763.length co29) t763) ∧ Aside0 (Kd.R k59 59 wc w.heap.size (fun _ => True) (.slice Ao30 t766.length co30) t766) ∧ Aside0 (wc.heap[gb756]? = some (.cells #[.int .i64 t735, .int .i64 t736, .int .i64 t737, .int .i64 t738, .int .i64 t739, .int .i64 t740, .int .i64 t741, .int .i64 t742, .int .i64 t743, .int .i64 t744, .int .i64 t745, .int .i64 t746, .bool t747, .int .i64 t748, .int .i64 t749, .int .i64 t750, .int .i64 t751, (.slice Ao10 t752.length co10)] 43 (0, 0))) ∧ Aside0 (wc.heap[gb770]? = some (.cells #[.int .i64 t759, .int .i64 t760, .int .i64 t761, .int .i64 t762, (.slice Ao29 t763.length co29), (.slice Ao30 t766.length co30)] 26 (0, 0))) ∧ Aside0 (Below w.heap.size w wc))
   case first =>
    have H := HC24.out
    clear HC24
    by_cases c32 : t772 = 0
    ·rw [if_pos c32] at H
     have c32b0 : (t772 == 0) = true := beq_iff_eq.mpr c32
     have c32b1 : (t772 != 0) = false := bne_eq_false_iff_eq.mpr c32
     clear c32
     (first | rw [c32b0] | rw [c32b9] | (simp only [i64_w, i32_w]; rw [c32b0]) | skip)
     have H' := Aside0.mk H
     clear H
     go_wp2
     go_meet
     case rel => exact ⟨_, ((t771.toList != a0.toList)), Zz.q, H', ⟨by have := HJ5.out; first | omega | exact Nat.le_refl _⟩, ⟨Zz.r HO_757017.out⟩, ⟨Zz.r HO765.out⟩, ⟨Zz.r HO768.out⟩, ⟨Zz.p BK756.out⟩, ⟨Zz.p BK770.out⟩, ⟨by repeat (first | (with_reducible first | exact HB.out | apply below_alloc | apply pw_below_drewN | apply below_drew1 | refine below_set ?_ GE756.out | refine below_set ?_ GE770.out) | exact HB.out)⟩⟩
    rw [if_neg c32] at H
    have c32b0 : (t772 == 0) = false := beq_eq_false_iff_ne.mpr c32
    have c32b1 : (t772 != 0) = true := bne_iff_ne.mpr c32
    (first | rw [c32b0] | rw [c32b9] | (simp only [i64_w, i32_w]; rw [c32b0]) | skip)
    have H' := Aside0.mk H
    clear H
    go_wp2
    go_meet
    case rel => exact ⟨_, (true), Zz.q, H', ⟨by have := HJ5.out; first | omega | exact Nat.le_refl _⟩, ⟨Zz.r HO_757017.out⟩, ⟨Zz.r HO765.out⟩, ⟨Zz.r HO768.out⟩, ⟨Zz.p BK756.out⟩, ⟨Zz.p BK770.out⟩, ⟨by repeat (first | (with_reducible first | exact HB.out | apply below_alloc | apply pw_below_drewN | apply below_drew1 | refine below_set ?_ GE756.out | refine below_set ?_ GE770.out) | exact HB.out)⟩⟩
   clear HC24
   (try clear c1);(try clear c2);(try clear c2b0);(try clear c2b1);(try clear p2);(try clear c3);(try clear c6);(try clear c9);(try clear c10);(try clear c11);(try clear c11b0);(try clear c11b1);(try clear c12);(try clear c13);(try clear c13b0);(try clear c13b1);(try clear c14);(try clear c14b0);(try clear c14b1);(try clear c16);(try clear c18);(try clear c22);(try clear c22b0);(try clear c22b1);(try clear c27);(try clear c32);(try clear c32b0);(try clear c32b1);(try clear hcz15);(try clear hcz17);(try clear hcz19);(try clear hcz28);(try clear hcz9);(try clear hfz15);(try clear hfz17);(try clear hfz19);(try clear hfz28);(try clear hfz9)
   obtain ⟨kq, x52_23, rfl, HA, HJ23, HO_757017, HO_771004, HO_771005, BK756, BK770, HB⟩ := hcut
   cases kq with
   | zero => exact absurd HA.out (by simp [headgatelaw18_WireOnly.j1])
   | succ kj23 =>
    have H := HA.out
    clear HA
    simp only [headgatelaw18_WireOnly.j1] at H
    by_cases c33 : x52_23 = true
    ·subst c33
     have H1 : (some false) = some r := by rw [if_pos rfl] at H; exact H
     clear H
     have H := H1
     clear H1
     obtain rfl := Option.some.inj H
     exact absurd hT_ Bool.false_ne_true
    replace c33 := Bool.eq_false_iff.mpr c33
    subst c33
    have H1 : (if t755 = 0 then (if t769 = 0 then ((headgatelaw18_awake.f kj23).bind fun t773 => (some t773)) else (if t769 = 2 then ((headgateref18_SameReply.f kj23 t759 t760 t761 t762 t763 t766 0 0 0 0 ([] : List Int) ([] : List (S59))).bind fun t774 => (if t774 = true then ((headgatelaw18_awake.f kj23).bind fun t775 => (some t775)) else (some false))) else (some false))) else (if t755 = 2 then ((headgateref18_SameAsk.f kj23 t735 t736 t737 t738 t739 t740 t741 t742 t743 t744 t745 t746 t747 t748 t749 t750 t751 t752 0 0 0 0 0 0 0 0 0 0 0 0 false 0 0 0 0 ([] : List (S57))).bind fun t776 => (if t776 = true then (if t769 = 0 then ((headgatelaw18_awake.f kj23).bind fun t777 => (some t777)) else (if t769 = 2 then ((headgateref18_SameReply.f kj23 t759 t760 t761 t762 t763 t766 0 0 0 0 ([] : List Int) ([] : List (S59))).bind fun t778 => (if t778 = true then ((headgatelaw18_awake.f kj23).bind fun t779 => (some t779)) else (some false))) else (some false))) else (some false))) else (some false))) = some r := by rw [if_neg (show ¬ (false = true) by decide)] at H; exact H
    clear H
    have H := H1
    clear H1
    by_cases c34 : t755 = 0
    ·rw [if_pos c34] at H
     have c34b0 : (t755 == 0) = true := beq_iff_eq.mpr c34
     have c34b1 : (t755 != 0) = false := bne_eq_false_iff_eq.mpr c34
     clear c34
     by_cases c35 : t769 = 0
     ·rw [if_pos c35] at H
      have c35b0 : (t769 == 0) = true := beq_iff_eq.mpr c35
      have c35b1 : (t769 != 0) = false := bne_eq_false_iff_eq.mpr c35
      clear c35
      replace H := Option.bind_eq_some_iff.mp H
      obtain ⟨t773, A360, H⟩ := H
      replace H : (some t773) = some r := H
      have A36 := Aside0.mk A360
      clear A360
      obtain rfl := Option.some.inj H
      go_wp2_with (first | (go_at_call 9; (with_reducible refine (headgatelaw18_awake.calls kj23  t773 _ A36.out).mono ?_); rintro e w37 ⟨rfl, hb⟩; replace HO_757017 := Aside0.mk (Kd.R_below (Zz.r HO_757017.out) hb); replace HO_771004 := Aside0.mk (Kd.R_below (Zz.r HO_771004.out) hb); replace HO_771005 := Aside0.mk (Kd.R_below (Zz.r HO_771005.out) hb); replace BK756 := Aside0.mk (Zz.bb BK756.out hb); replace BK770 := Aside0.mk (Zz.bb BK770.out hb); replace HB := Aside0.mk (below_step (Zz.i HB.out) hb); (try clear hb)))
      go_ret
      exact ⟨by first | rfl | (simp [errW_none, errW_some] <;> rfl) | (simp [*, errW_none, errW_some] <;> rfl), by repeat (first | (with_reducible first | exact HB.out | apply below_alloc | apply pw_below_drewN | apply below_drew1 | refine below_set ?_ GE756.out | refine below_set ?_ GE770.out) | exact HB.out)⟩
     rw [if_neg c35] at H
     have c35b0 : (t769 == 0) = false := beq_eq_false_iff_ne.mpr c35
     have c35b1 : (t769 != 0) = true := bne_iff_ne.mpr c35
     by_cases c38 : t769 = 2
     ·rw [if_pos c38] at H
      have c38b0 : (t769 == 2) = true := beq_iff_eq.mpr c38
      have c38b1 : (t769 != 2) = false := bne_eq_false_iff_eq.mpr c38
      clear c38
      replace H := Option.bind_eq_some_iff.mp H
      obtain ⟨t774, A390, H⟩ := H
      replace H : (if t774 = true then ((headgatelaw18_awake.f kj23).bind fun t775 => (some t775)) else (some false)) = some r := H
      have A39 := Aside0.mk A390
      clear A390
      by_cases c40 : t774 = true
      ·subst c40
       have H1 : ((headgatelaw18_awake.f kj23).bind fun t775 => (some t775)) = some r := by rw [if_pos rfl] at H; exact H
       clear H
       have H := H1
       clear H1
       replace H := Option.bind_eq_some_iff.mp H
       obtain ⟨t775, A410, H⟩ := H
       replace H : (some t775) = some r := H
       have A41 := Aside0.mk A410
       clear A410
       obtain rfl := Option.some.inj H
       have hnb42 := NB770_756.out
       have hnc42 := NB756_770.out
       have hcz43 := Zz.c6 BK770.out
       have hfz43 := blk_frozen BK770.out
       go_wp2_with (first | (go_at_call 14; (refine (headgateref18_SameReply.calls kj23 t759 t760 t761 t762 _ _ t763 _ _ t766 0 0 0 0 _ _ ([] : List Int) _ _ ([] : List (S59)) true _ ?side1 ?side2 ?side3 ?side4 ?side5 ?side6 ?side7 ?side8 A39.out).mono ?_); (case side1 => repeat (first | exact (Kd.R_reads' HO_771004.out).2.2 | (with_reducible refine Kd.C_alloc ?_ _) | (with_reducible refine Kd.C_drewN ?_ _) | (with_reducible refine Kd.C_drew ?_))); (case side2 => exact (Kd.R_reads' HO_771004.out).2.1); (case side3 => repeat (first | exact (Kd.R_reads' HO_771005.out).2.2 | (with_reducible refine Kd.C_alloc ?_ _) | (with_reducible refine Kd.C_drewN ?_ _) | (with_reducible refine Kd.C_drew ?_))); (case side4 => exact (Kd.R_reads' HO_771005.out).2.1); (case side5 => exact Kd.C_nil _ _); (case side6 => exact Nat.le_refl _); (case side7 => exact Kd.C_nil _ _); (case side8 => exact Nat.le_refl _); rintro e w44 ⟨rfl, hb⟩; replace HO_757017 := Aside0.mk (Kd.R_below (Zz.r HO_757017.out) hb); replace HO_771004 := Aside0.mk (Kd.R_below (Zz.r HO_771004.out) hb); replace HO_771005 := Aside0.mk (Kd.R_below (Zz.r HO_771005.out) hb); replace BK756 := Aside0.mk (Zz.bb BK756.out hb); replace BK770 := Aside0.mk (Zz.bb BK770.out hb); replace HB := Aside0.mk (below_step (Zz.i HB.out) hb); (try clear hb)) | (go_at_call 9; (with_reducible refine (headgatelaw18_awake.calls kj23  t775 _ A41.out).mono ?_); rintro e w45 ⟨rfl, hb⟩; replace HO_757017 := Aside0.mk (Kd.R_below (Zz.r HO_757017.out) hb); replace HO_771004 := Aside0.mk (Kd.R_below (Zz.r HO_771004.out) hb); replace HO_771005 := Aside0.mk (Kd.R_below (Zz.r HO_771005.out) hb); replace BK756 := Aside0.mk (Zz.bb BK756.out hb); replace BK770 := Aside0.mk (Zz.bb BK770.out hb); replace HB := Aside0.mk (below_step (Zz.i HB.out) hb); (try clear hb)))
       go_ret
       exact ⟨by first | rfl | (simp [errW_none, errW_some] <;> rfl) | (simp [*, errW_none, errW_some] <;> rfl), by repeat (first | (with_reducible first | exact HB.out | apply below_alloc | apply pw_below_drewN | apply below_drew1 | refine below_set ?_ GE756.out | refine below_set ?_ GE770.out) | exact HB.out)⟩
      replace c40 := Bool.eq_false_iff.mpr c40
      subst c40
      have H1 : (some false) = some r := by rw [if_neg (show ¬ (false = true) by decide)] at H; exact H
      clear H
      have H := H1
      clear H1
      obtain rfl := Option.some.inj H
      exact absurd hT_ Bool.false_ne_true
     rw [if_neg c38] at H
     have c38b0 : (t769 == 2) = false := beq_eq_false_iff_ne.mpr c38
     have c38b1 : (t769 != 2) = true := bne_iff_ne.mpr c38
     obtain rfl := Option.some.inj H
     exact absurd hT_ Bool.false_ne_true
    rw [if_neg c34] at H
    have c34b0 : (t755 == 0) = false := beq_eq_false_iff_ne.mpr c34
    have c34b1 : (t755 != 0) = true := bne_iff_ne.mpr c34
    by_cases c49 : t755 = 2
    ·rw [if_pos c49] at H
     have c49b0 : (t755 == 2) = true := beq_iff_eq.mpr c49
     have c49b1 : (t755 != 2) = false := bne_eq_false_iff_eq.mpr c49
     clear c49
     replace H := Option.bind_eq_some_iff.mp H
     obtain ⟨t776, A500, H⟩ := H
     replace H : (if t776 = true then (if t769 = 0 then ((headgatelaw18_awake.f kj23).bind fun t777 => (some t777)) else (if t769 = 2 then ((headgateref18_SameReply.f kj23 t759 t760 t761 t762 t763 t766 0 0 0 0 ([] : List Int) ([] : List (S59))).bind fun t778 => (if t778 = true then ((headgatelaw18_awake.f kj23).bind fun t779 => (some t779)) else (some false))) else (some false))) else (some false)) = some r := H
     have A50 := Aside0.mk A500
     clear A500
     by_cases c51 : t776 = true
     ·subst c51
      have H1 : (if t769 = 0 then ((headgatelaw18_awake.f kj23).bind fun t777 => (some t777)) else (if t769 = 2 then ((headgateref18_SameReply.f kj23 t759 t760 t761 t762 t763 t766 0 0 0 0 ([] : List Int) ([] : List (S59))).bind fun t778 => (if t778 = true then ((headgatelaw18_awake.f kj23).bind fun t779 => (some t779)) else (some false))) else (some false))) = some r := by rw [if_pos rfl] at H; exact H
      clear H
      have H := H1
      clear H1
      by_cases c52 : t769 = 0
      ·rw [if_pos c52] at H
       have c52b0 : (t769 == 0) = true := beq_iff_eq.mpr c52
       have c52b1 : (t769 != 0) = false := bne_eq_false_iff_eq.mpr c52
       clear c52
       replace H := Option.bind_eq_some_iff.mp H
       obtain ⟨t777, A530, H⟩ := H
       replace H : (some t777) = some r := H
       have A53 := Aside0.mk A530
       clear A530
       obtain rfl := Option.some.inj H
       have hnb54 := NB756_770.out
       have hnc54 := NB770_756.out
       have hcz55 := Zz.c18 BK756.out
       have hfz55 := blk_frozen BK756.out
       go_wp2_with (first | (go_at_call 20; (refine (headgateref18_SameAsk.calls kj23 t735 t736 t737 t738 t739 t740 t741 t742 t743 t744 t745 t746 t747 t748 t749 t750 t751 _ _ t752 0 0 0 0 0 0 0 0 0 0 0 0 false 0 0 0 0 _ _ ([] : List (S57)) true _ ?side1 ?side2 ?side3 ?side4 A50.out).mono ?_); (case side1 => repeat (first | exact (Kd.R_reads' HO_757017.out).2.2 | (with_reducible refine Kd.C_alloc ?_ _) | (with_reducible refine Kd.C_drewN ?_ _) | (with_reducible refine Kd.C_drew ?_))); (case side2 => exact (Kd.R_reads' HO_757017.out).2.1); (case side3 => exact Kd.C_nil _ _); (case side4 => exact Nat.le_refl _); rintro e w56 ⟨rfl, hb⟩; replace HO_757017 := Aside0.mk (Kd.R_below (Zz.r HO_757017.out) hb); replace HO_771004 := Aside0.mk (Kd.R_below (Zz.r HO_771004.out) hb); replace HO_771005 := Aside0.mk (Kd.R_below (Zz.r HO_771005.out) hb); replace BK756 := Aside0.mk (Zz.bb BK756.out hb); replace BK770 := Aside0.mk (Zz.bb BK770.out hb); replace HB := Aside0.mk (below_step (Zz.i HB.out) hb); (try clear hb)) | (go_at_call 9; (with_reducible refine (headgatelaw18_awake.calls kj23  t777 _ A53.out).mono ?_); rintro e w57 ⟨rfl, hb⟩; replace HO_757017 := Aside0.mk (Kd.R_below (Zz.r HO_757017.out) hb); replace HO_771004 := Aside0.mk (Kd.R_below (Zz.r HO_771004.out) hb); replace HO_771005 := Aside0.mk (Kd.R_below (Zz.r HO_771005.out) hb); replace BK756 := Aside0.mk (Zz.bb BK756.out hb); replace BK770 := Aside0.mk (Zz.bb BK770.out hb); replace HB := Aside0.mk (below_step (Zz.i HB.out) hb); (try clear hb)))
       go_ret
       exact ⟨by first | rfl | (simp [errW_none, errW_some] <;> rfl) | (simp [*, errW_none, errW_some] <;> rfl), by repeat (first | (with_reducible first | exact HB.out | apply below_alloc | apply pw_below_drewN | apply below_drew1 | refine below_set ?_ GE756.out | refine below_set ?_ GE770.out) | exact HB.out)⟩
      rw [if_neg c52] at H
      have c52b0 : (t769 == 0) = false := beq_eq_false_iff_ne.mpr c52
      have c52b1 : (t769 != 0) = true := bne_iff_ne.mpr c52
      by_cases c58 : t769 = 2
      ·rw [if_pos c58] at H
       have c58b0 : (t769 == 2) = true := beq_iff_eq.mpr c58
       have c58b1 : (t769 != 2) = false := bne_eq_false_iff_eq.mpr c58
       clear c58
       replace H := Option.bind_eq_some_iff.mp H
       obtain ⟨t778, A590, H⟩ := H
       replace H : (if t778 = true then ((headgatelaw18_awake.f kj23).bind fun t779 => (some t779)) else (some false)) = some r := H
       have A59 := Aside0.mk A590
       clear A590
       by_cases c60 : t778 = true
       ·subst c60
        have H1 : ((headgatelaw18_awake.f kj23).bind fun t779 => (some t779)) = some r := by rw [if_pos rfl] at H; exact H
        clear H
        have H := H1
        clear H1
        replace H := Option.bind_eq_some_iff.mp H
        obtain ⟨t779, A610, H⟩ := H
        replace H : (some t779) = some r := H
        have A61 := Aside0.mk A610
        clear A610
        obtain rfl := Option.some.inj H
        have hnb62 := NB756_770.out
        have hnc62 := NB770_756.out
        have hcz63 := Zz.c18 BK756.out
        have hfz63 := blk_frozen BK756.out
        go_wp2_with (first | (go_at_call 20; (refine (headgateref18_SameAsk.calls kj23 t735 t736 t737 t738 t739 t740 t741 t742 t743 t744 t745 t746 t747 t748 t749 t750 t751 _ _ t752 0 0 0 0 0 0 0 0 0 0 0 0 false 0 0 0 0 _ _ ([] : List (S57)) true _ ?side1 ?side2 ?side3 ?side4 A50.out).mono ?_); (case side1 => repeat (first | exact (Kd.R_reads' HO_757017.out).2.2 | (with_reducible refine Kd.C_alloc ?_ _) | (with_reducible refine Kd.C_drewN ?_ _) | (with_reducible refine Kd.C_drew ?_))); (case side2 => exact (Kd.R_reads' HO_757017.out).2.1); (case side3 => exact Kd.C_nil _ _); (case side4 => exact Nat.le_refl _); rintro e w64 ⟨rfl, hb⟩; replace HO_757017 := Aside0.mk (Kd.R_below (Zz.r HO_757017.out) hb); replace HO_771004 := Aside0.mk (Kd.R_below (Zz.r HO_771004.out) hb); replace HO_771005 := Aside0.mk (Kd.R_below (Zz.r HO_771005.out) hb); replace BK756 := Aside0.mk (Zz.bb BK756.out hb); replace BK770 := Aside0.mk (Zz.bb BK770.out hb); replace HB := Aside0.mk (below_step (Zz.i HB.out) hb); (try clear hb); have hcz65 := Zz.c6 BK770.out; have hfz65 := blk_frozen BK770.out) | (go_at_call 14; (refine (headgateref18_SameReply.calls kj23 t759 t760 t761 t762 _ _ t763 _ _ t766 0 0 0 0 _ _ ([] : List Int) _ _ ([] : List (S59)) true _ ?side1 ?side2 ?side3 ?side4 ?side5 ?side6 ?side7 ?side8 A59.out).mono ?_); (case side1 => repeat (first | exact (Kd.R_reads' HO_771004.out).2.2 | (with_reducible refine Kd.C_alloc ?_ _) | (with_reducible refine Kd.C_drewN ?_ _) | (with_reducible refine Kd.C_drew ?_))); (case side2 => exact (Kd.R_reads' HO_771004.out).2.1); (case side3 => repeat (first | exact (Kd.R_reads' HO_771005.out).2.2 | (with_reducible refine Kd.C_alloc ?_ _) | (with_reducible refine Kd.C_drewN ?_ _) | (with_reducible refine Kd.C_drew ?_))); (case side4 => exact (Kd.R_reads' HO_771005.out).2.1); (case side5 => exact Kd.C_nil _ _); (case side6 => exact Nat.le_refl _); (case side7 => exact Kd.C_nil _ _); (case side8 => exact Nat.le_refl _); rintro e w66 ⟨rfl, hb⟩; replace HO_757017 := Aside0.mk (Kd.R_below (Zz.r HO_757017.out) hb); replace HO_771004 := Aside0.mk (Kd.R_below (Zz.r HO_771004.out) hb); replace HO_771005 := Aside0.mk (Kd.R_below (Zz.r HO_771005.out) hb); replace BK756 := Aside0.mk (Zz.bb BK756.out hb); replace BK770 := Aside0.mk (Zz.bb BK770.out hb); replace HB := Aside0.mk (below_step (Zz.i HB.out) hb); (try clear hb)) | (go_at_call 9; (with_reducible refine (headgatelaw18_awake.calls kj23  t779 _ A61.out).mono ?_); rintro e w67 ⟨rfl, hb⟩; replace HO_757017 := Aside0.mk (Kd.R_below (Zz.r HO_757017.out) hb); replace HO_771004 := Aside0.mk (Kd.R_below (Zz.r HO_771004.out) hb); replace HO_771005 := Aside0.mk (Kd.R_below (Zz.r HO_771005.out) hb); replace BK756 := Aside0.mk (Zz.bb BK756.out hb); replace BK770 := Aside0.mk (Zz.bb BK770.out hb); replace HB := Aside0.mk (below_step (Zz.i HB.out) hb); (try clear hb)))
        go_ret
        exact ⟨by first | rfl | (simp [errW_none, errW_some] <;> rfl) | (simp [*, errW_none, errW_some] <;> rfl), by repeat (first | (with_reducible first | exact HB.out | apply below_alloc | apply pw_below_drewN | apply below_drew1 | refine below_set ?_ GE756.out | refine below_set ?_ GE770.out) | exact HB.out)⟩
       replace c60 := Bool.eq_false_iff.mpr c60
       subst c60
       have H1 : (some false) = some r := by rw [if_neg (show ¬ (false = true) by decide)] at H; exact H
       clear H
       have H := H1
       clear H1
       obtain rfl := Option.some.inj H
       exact absurd hT_ Bool.false_ne_true
      rw [if_neg c58] at H
      have c58b0 : (t769 == 2) = false := beq_eq_false_iff_ne.mpr c58
      have c58b1 : (t769 != 2) = true := bne_iff_ne.mpr c58
      obtain rfl := Option.some.inj H
      exact absurd hT_ Bool.false_ne_true
     replace c51 := Bool.eq_false_iff.mpr c51
     subst c51
     have H1 : (some false) = some r := by rw [if_neg (show ¬ (false = true) by decide)] at H; exact H
     clear H
     have H := H1
     clear H1
     obtain rfl := Option.some.inj H
     exact absurd hT_ Bool.false_ne_true
    rw [if_neg c49] at H
    have c49b0 : (t755 == 2) = false := beq_eq_false_iff_ne.mpr c49
    have c49b1 : (t755 != 2) = true := bne_iff_ne.mpr c49
    obtain rfl := Option.some.inj H
    exact absurd hT_ Bool.false_ne_true
  rw [if_neg c22] at H
  have c22b0 : (t769 == 0) = false := beq_eq_false_iff_ne.mpr c22
  have c22b1 : (t769 != 0) = true := bne_iff_ne.mpr c22
  by_cases c79 : t755 = 0
  ·rw [if_pos c79] at H
   have c79b0 : (t755 == 0) = true := beq_iff_eq.mpr c79
   have c79b1 : (t755 != 0) = false := bne_eq_false_iff_eq.mpr c79
   clear c79
   by_cases c80 : t769 = 2
   ·rw [if_pos c80] at H
    have c80b0 : (t769 == 2) = true := beq_iff_eq.mpr c80
    have c80b1 : (t769 != 2) = false := bne_eq_false_iff_eq.mpr c80
    clear c80
    replace H := Option.bind_eq_some_iff.mp H
    obtain ⟨t780, A810, H⟩ := H
    replace H : (if t780 = true then ((headgatelaw18_awake.f kj5).bind fun t781 => (some t781)) else (some false)) = some r := H
    have A81 := Aside0.mk A810
    clear A810
    by_cases c82 : t780 = true
    ·subst c82
     have H1 : ((headgatelaw18_awake.f kj5).bind fun t781 => (some t781)) = some r := by rw [if_pos rfl] at H; exact H
     clear H
     have H := H1
     clear H1
     replace H := Option.bind_eq_some_iff.mp H
     obtain ⟨t781, A830, H⟩ := H
     replace H : (some t781) = some r := H
     have A83 := Aside0.mk A830
     clear A830
     obtain rfl := Option.some.inj H
     go_wp2_with (first | ((with_reducible refine gate_callee (f := 12) rfl ?_); refine goesL_ (some 36) rfl rfl Try.func12 (by kernel_rfl) rfl #[.string a0] rfl Zz.g ?_; (with_reducible refine (wire_DecodeReply.calls kj5 a0 t759 t760 t761 t762 t763 t766 t769 _ A21.out).mono ?_); rintro e w84 ⟨v764, v767, rfl, ho0, ho1, hb⟩; refine ⟨_, rfl, ?_⟩; replace HO_757017 := Aside0.mk (Kd.R_below (Zz.r HO_757017.out) hb); have HO765 := Aside0.mk (Kd.R_lower ho0 (below_size (Zz.i HB.out))); have HO768 := Aside0.mk (Kd.R_lower ho1 (below_size (Zz.i HB.out))); replace BK756 := Aside0.mk (Zz.bb BK756.out hb); replace HB := Aside0.mk (below_step (Zz.i HB.out) hb); (try clear hb); (try clear ho0); (try clear ho1)) | ((with_reducible refine gate_dst (N := 7) rfl ?_); refine box_event ?hg (N := 7) ?hd (cs := #[.int .i64 0, .int .i64 0, .int .i64 0, .int .i64 0, .slice none 0 0, .slice none 0 0]) (t := 26) ?hr ?_; (case hd => rfl); (case hg => rfl); (case hr => first | (go_simp; done) | (go_simp; rfl)); intro gb770 hg w85 hbox hb; replace HO_757017 := Aside0.mk (Kd.R_below (Zz.r HO_757017.out) hb); replace HO765 := Aside0.mk (Kd.R_below (Zz.r HO765.out) hb); replace HO768 := Aside0.mk (Kd.R_below (Zz.r HO768.out) hb); have BK770 := Aside0.mk (hbox); have GW770 := Aside0.mk (Zz.ge hg HB.out); have GE770 := Aside0.mk (Zz.ge hg HB.out); replace HB := Aside0.mk (below_step (Zz.i HB.out) hb); have NB756_770 := Aside0.mk (Zz.nl hg BK756.out); have NB770_756 := Aside0.mk (Zz.ng hg BK756.out); replace BK756 := Aside0.mk (Zz.bb BK756.out hb); clear hb hbox hg; have hnb86 := NB770_756.out; have hnc86 := NB756_770.out; have hcz87 := Zz.c6 BK770.out; have hfz87 := blk_frozen BK770.out; obtain ⟨Ao88, co88, eo88⟩ := Kd.R_slice HO765.out; subst eo88; obtain ⟨Ao89, co89, eo89⟩ := Kd.R_slice HO768.out; subst eo89) | (go_at_call 14; (refine (headgateref18_SameReply.calls kj5 t759 t760 t761 t762 _ _ t763 _ _ t766 0 0 0 0 _ _ ([] : List Int) _ _ ([] : List (S59)) true _ ?side1 ?side2 ?side3 ?side4 ?side5 ?side6 ?side7 ?side8 A81.out).mono ?_); (case side1 => refine (Kd.R_reads' (e := 3) (base := w.heap.size) (ok := fun k_ => True) (n := t763.length) (c := co88) ?_).2.2; exact (by (with_reducible repeat (first | apply Kd.R_alloc | apply Kd.R_drewN | apply Kd.R_drew)); exact (Kd.R_mono (Zz.f6 (Kd.R_types HO765.out BK770.out (by decide)) (fun _ hk => hk.2)) (fun _ h_ => h_.1)))); (case side2 => exact (Kd.R_reads' HO765.out).2.1); (case side3 => refine (Kd.R_reads' (e := 59) (base := w.heap.size) (ok := fun k_ => True) (n := t766.length) (c := co89) ?_).2.2; exact (by (with_reducible repeat (first | apply Kd.R_alloc | apply Kd.R_drewN | apply Kd.R_drew)); exact (Kd.R_mono (Zz.f6 (Kd.R_types HO768.out BK770.out (by decide)) (fun _ hk => hk.2)) (fun _ h_ => h_.1)))); (case side4 => exact (Kd.R_reads' HO768.out).2.1); (case side5 => exact Kd.C_nil _ _); (case side6 => exact Nat.le_refl _); (case side7 => exact Kd.C_nil _ _); (case side8 => exact Nat.le_refl _); rintro e w90 ⟨rfl, hb⟩; have n0_ := Aside0.mk (Kd.R_below (by (with_reducible repeat (first | apply Kd.R_alloc | apply Kd.R_drewN | apply Kd.R_drew)); exact (Kd.R_mono (Zz.f6 (Kd.R_types HO_757017.out BK770.out (by decide)) (fun _ hk => hk.2)) (fun _ h_ => h_.1))) hb); have n1_ := Aside0.mk (Kd.R_below (by (with_reducible repeat (first | apply Kd.R_alloc | apply Kd.R_drewN | apply Kd.R_drew)); exact (Kd.R_mono (Zz.f6 (Kd.R_types HO765.out BK770.out (by decide)) (fun _ hk => hk.2)) (fun _ h_ => h_.1))) hb); have n2_ := Aside0.mk (Kd.R_below (by (with_reducible repeat (first | apply Kd.R_alloc | apply Kd.R_drewN | apply Kd.R_drew)); exact (Kd.R_mono (Zz.f6 (Kd.R_types HO768.out BK770.out (by decide)) (fun _ hk => hk.2)) (fun _ h_ => h_.1))) hb); have n3_ := Aside0.mk (blk_below (g := gb756) (o := .cells #[.int .i64 t735, .int .i64 t736, .int .i64 t737, .int .i64 t738, .int .i64 t739, .int .i64 t740, .int .i64 t741, .int .i64 t742, .int .i64 t743, .int .i64 t744, .int .i64 t745, .int .i64 t746, .bool t747, .int .i64 t748, .int .i64 t749, .int .i64 t750, .int .i64 t751, .slice Ao10 t752.length co10] 43 (0, 0)) (by exact Zz.q6 BK756.out NB756_770.out) hb); have n4_ := Aside0.mk (blk_below (g := gb770) (o := .cells #[.int .i64 t759, .int .i64 t760, .int .i64 t761, .int .i64 t762, .slice Ao88 t763.length co88, .slice Ao89 t766.length co89] 26 (0, 0)) (by (with_reducible repeat (first | refine blk_drewN ?_ _ | refine blk_drew ?_ | refine blk_alloc ?_ _)); exact Zz.u6_0_5 BK770.out) hb); have n5_ := Aside0.mk (below_step (Zz.i HB.out) hb); clear HO_757017; clear HO765; clear HO768; clear BK756; clear BK770; clear HB; have HO_757017 := n0_; have HO765 := n1_; have HO768 := n2_; have BK756 := n3_; have BK770 := n4_; have HB := n5_; clear n0_ n1_ n2_ n3_ n4_ n5_; (try clear hb); (try clear hk)) | (go_at_call 9; (with_reducible refine (headgatelaw18_awake.calls kj5  t781 _ A83.out).mono ?_); rintro e w91 ⟨rfl, hb⟩; replace HO_757017 := Aside0.mk (Kd.R_below (Zz.r HO_757017.out) hb); replace HO765 := Aside0.mk (Kd.R_below (Zz.r HO765.out) hb); replace HO768 := Aside0.mk (Kd.R_below (Zz.r HO768.out) hb); replace BK756 := Aside0.mk (Zz.bb BK756.out hb); replace BK770 := Aside0.mk (Zz.bb BK770.out hb); replace HB := Aside0.mk (below_step (Zz.i HB.out) hb); (try clear hb)))
     go_ret
     exact ⟨by first | rfl | (simp [errW_none, errW_some] <;> rfl) | (simp [*, errW_none, errW_some] <;> rfl), by repeat (first | (with_reducible first | exact HB.out | apply below_alloc | apply pw_below_drewN | apply below_drew1 | refine below_set ?_ GE756.out | refine below_set ?_ GE770.out) | exact HB.out)⟩
    replace c82 := Bool.eq_false_iff.mpr c82
    subst c82
    have H1 : (some false) = some r := by rw [if_neg (show ¬ (false = true) by decide)] at H; exact H
    clear H
    have H := H1
    clear H1
    obtain rfl := Option.some.inj H
    exact absurd hT_ Bool.false_ne_true
   rw [if_neg c80] at H
   have c80b0 : (t769 == 2) = false := beq_eq_false_iff_ne.mpr c80
   have c80b1 : (t769 != 2) = true := bne_iff_ne.mpr c80
   obtain rfl := Option.some.inj H
   exact absurd hT_ Bool.false_ne_true
  rw [if_neg c79] at H
  have c79b0 : (t755 == 0) = false := beq_eq_false_iff_ne.mpr c79
  have c79b1 : (t755 != 0) = true := bne_iff_ne.mpr c79
  by_cases c105 : t755 = 2
  ·rw [if_pos c105] at H
   have c105b0 : (t755 == 2) = true := beq_iff_eq.mpr c105
   have c105b1 : (t755 != 2) = false := bne_eq_false_iff_eq.mpr c105
   clear c105
   replace H := Option.bind_eq_some_iff.mp H
   obtain ⟨t782, A1060, H⟩ := H
   replace H : (if t782 = true then (if t769 = 2 then ((headgateref18_SameReply.f kj5 t759 t760 t761 t762 t763 t766 0 0 0 0 ([] : List Int) ([] : List (S59))).bind fun t783 => (if t783 = true then ((headgatelaw18_awake.f kj5).bind fun t784 => (some t784)) else (some false))) else (some false)) else (some false)) = some r := H
   have A106 := Aside0.mk A1060
   clear A1060
   by_cases c107 : t782 = true
   ·subst c107
    have H1 : (if t769 = 2 then ((headgateref18_SameReply.f kj5 t759 t760 t761 t762 t763 t766 0 0 0 0 ([] : List Int) ([] : List (S59))).bind fun t783 => (if t783 = true then ((headgatelaw18_awake.f kj5).bind fun t784 => (some t784)) else (some false))) else (some false)) = some r := by rw [if_pos rfl] at H; exact H
    clear H
    have H := H1
    clear H1
    by_cases c108 : t769 = 2
    ·rw [if_pos c108] at H
     have c108b0 : (t769 == 2) = true := beq_iff_eq.mpr c108
     have c108b1 : (t769 != 2) = false := bne_eq_false_iff_eq.mpr c108
     clear c108
     replace H := Option.bind_eq_some_iff.mp H
     obtain ⟨t783, A1090, H⟩ := H
     replace H : (if t783 = true then ((headgatelaw18_awake.f kj5).bind fun t784 => (some t784)) else (some false)) = some r := H
     have A109 := Aside0.mk A1090
     clear A1090
     by_cases c110 : t783 = true
     ·subst c110
      have H1 : ((headgatelaw18_awake.f kj5).bind fun t784 => (some t784)) = some r := by rw [if_pos rfl] at H; exact H
      clear H
      have H := H1
      clear H1
      replace H := Option.bind_eq_some_iff.mp H
      obtain ⟨t784, A1110, H⟩ := H
      replace H : (some t784) = some r := H
      have A111 := Aside0.mk A1110
      clear A1110
      obtain rfl := Option.some.inj H
      go_wp2_with (first | ((with_reducible refine gate_callee (f := 12) rfl ?_); refine goesL_ (some 36) rfl rfl Try.func12 (by kernel_rfl) rfl #[.string a0] rfl Zz.g ?_; (with_reducible refine (wire_DecodeReply.calls kj5 a0 t759 t760 t761 t762 t763 t766 t769 _ A21.out).mono ?_); rintro e w112 ⟨v764, v767, rfl, ho0, ho1, hb⟩; refine ⟨_, rfl, ?_⟩; replace HO_757017 := Aside0.mk (Kd.R_below (Zz.r HO_757017.out) hb); have HO765 := Aside0.mk (Kd.R_lower ho0 (below_size (Zz.i HB.out))); have HO768 := Aside0.mk (Kd.R_lower ho1 (below_size (Zz.i HB.out))); replace BK756 := Aside0.mk (Zz.bb BK756.out hb); replace HB := Aside0.mk (below_step (Zz.i HB.out) hb); (try clear hb); (try clear ho0); (try clear ho1)) | ((with_reducible refine gate_dst (N := 7) rfl ?_); refine box_event ?hg (N := 7) ?hd (cs := #[.int .i64 0, .int .i64 0, .int .i64 0, .int .i64 0, .slice none 0 0, .slice none 0 0]) (t := 26) ?hr ?_; (case hd => rfl); (case hg => rfl); (case hr => first | (go_simp; done) | (go_simp; rfl)); intro gb770 hg w113 hbox hb; replace HO_757017 := Aside0.mk (Kd.R_below (Zz.r HO_757017.out) hb); replace HO765 := Aside0.mk (Kd.R_below (Zz.r HO765.out) hb); replace HO768 := Aside0.mk (Kd.R_below (Zz.r HO768.out) hb); have BK770 := Aside0.mk (hbox); have GW770 := Aside0.mk (Zz.ge hg HB.out); have GE770 := Aside0.mk (Zz.ge hg HB.out); replace HB := Aside0.mk (below_step (Zz.i HB.out) hb); have NB756_770 := Aside0.mk (Zz.nl hg BK756.out); have NB770_756 := Aside0.mk (Zz.ng hg BK756.out); replace BK756 := Aside0.mk (Zz.bb BK756.out hb); clear hb hbox hg; have hnb114 := NB770_756.out; have hnc114 := NB756_770.out; have hcz115 := Zz.c6 BK770.out; have hfz115 := blk_frozen BK770.out; obtain ⟨Ao116, co116, eo116⟩ := Kd.R_slice HO765.out; subst eo116; obtain ⟨Ao117, co117, eo117⟩ := Kd.R_slice HO768.out; subst eo117; have hcz118 := Zz.c18 BK756.out; have hfz118 := blk_frozen BK756.out) | (go_at_call 20; (refine (headgateref18_SameAsk.calls kj5 t735 t736 t737 t738 t739 t740 t741 t742 t743 t744 t745 t746 t747 t748 t749 t750 t751 _ _ t752 0 0 0 0 0 0 0 0 0 0 0 0 false 0 0 0 0 _ _ ([] : List (S57)) true _ ?side1 ?side2 ?side3 ?side4 A106.out).mono ?_); (case side1 => refine (Kd.R_reads' (e := 57) (base := w.heap.size) (ok := fun k_ => True) (n := t752.length) (c := co10) ?_).2.2; exact (by (with_reducible repeat (first | apply Kd.R_alloc | apply Kd.R_drewN | apply Kd.R_drew)); exact (Kd.R_mono (Zz.f6 (Kd.R_types HO_757017.out BK770.out (by decide)) (fun _ hk => hk.2)) (fun _ h_ => h_.1)))); (case side2 => exact (Kd.R_reads' HO_757017.out).2.1); (case side3 => exact Kd.C_nil _ _); (case side4 => exact Nat.le_refl _); rintro e w119 ⟨rfl, hb⟩; have n0_ := Aside0.mk (Kd.R_below (by (with_reducible repeat (first | apply Kd.R_alloc | apply Kd.R_drewN | apply Kd.R_drew)); exact (Kd.R_mono (Zz.f6 (Kd.R_types HO_757017.out BK770.out (by decide)) (fun _ hk => hk.2)) (fun _ h_ => h_.1))) hb); have n1_ := Aside0.mk (Kd.R_below (by (with_reducible repeat (first | apply Kd.R_alloc | apply Kd.R_drewN | apply Kd.R_drew)); exact (Kd.R_mono (Zz.f6 (Kd.R_types HO765.out BK770.out (by decide)) (fun _ hk => hk.2)) (fun _ h_ => h_.1))) hb); have n2_ := Aside0.mk (Kd.R_below (by (with_reducible repeat (first | apply Kd.R_alloc | apply Kd.R_drewN | apply Kd.R_drew)); exact (Kd.R_mono (Zz.f6 (Kd.R_types HO768.out BK770.out (by decide)) (fun _ hk => hk.2)) (fun _ h_ => h_.1))) hb); have n3_ := Aside0.mk (blk_below (g := gb756) (o := .cells #[.int .i64 t735, .int .i64 t736, .int .i64 t737, .int .i64 t738, .int .i64 t739, .int .i64 t740, .int .i64 t741, .int .i64 t742, .int .i64 t743, .int .i64 t744, .int .i64 t745, .int .i64 t746, .bool t747, .int .i64 t748, .int .i64 t749, .int .i64 t750, .int .i64 t751, .slice Ao10 t752.length co10] 43 (0, 0)) (by exact Zz.q6 BK756.out NB756_770.out) hb); have n4_ := Aside0.mk (blk_below (g := gb770) (o := .cells #[.int .i64 t759, .int .i64 t760, .int .i64 t761, .int .i64 t762, .slice Ao116 t763.length co116, .slice Ao117 t766.length co117] 26 (0, 0)) (by (with_reducible repeat (first | refine blk_drewN ?_ _ | refine blk_drew ?_ | refine blk_alloc ?_ _)); exact Zz.u6_0_5 BK770.out) hb); have n5_ := Aside0.mk (below_step (Zz.i HB.out) hb); clear HO_757017; clear HO765; clear HO768; clear BK756; clear BK770; clear HB; have HO_757017 := n0_; have HO765 := n1_; have HO768 := n2_; have BK756 := n3_; have BK770 := n4_; have HB := n5_; clear n0_ n1_ n2_ n3_ n4_ n5_; (try clear hb); (try clear hk); have hcz120 := Zz.c6 BK770.out; have hfz120 := blk_frozen BK770.out) | (go_at_call 14; (refine (headgateref18_SameReply.calls kj5 t759 t760 t761 t762 _ _ t763 _ _ t766 0 0 0 0 _ _ ([] : List Int) _ _ ([] : List (S59)) true _ ?side1 ?side2 ?side3 ?side4 ?side5 ?side6 ?side7 ?side8 A109.out).mono ?_); (case side1 => repeat (first | exact (Kd.R_reads' HO765.out).2.2 | (with_reducible refine Kd.C_alloc ?_ _) | (with_reducible refine Kd.C_drewN ?_ _) | (with_reducible refine Kd.C_drew ?_))); (case side2 => exact (Kd.R_reads' HO765.out).2.1); (case side3 => repeat (first | exact (Kd.R_reads' HO768.out).2.2 | (with_reducible refine Kd.C_alloc ?_ _) | (with_reducible refine Kd.C_drewN ?_ _) | (with_reducible refine Kd.C_drew ?_))); (case side4 => exact (Kd.R_reads' HO768.out).2.1); (case side5 => exact Kd.C_nil _ _); (case side6 => exact Nat.le_refl _); (case side7 => exact Kd.C_nil _ _); (case side8 => exact Nat.le_refl _); rintro e w121 ⟨rfl, hb⟩; replace HO_757017 := Aside0.mk (Kd.R_below (Zz.r HO_757017.out) hb); replace HO765 := Aside0.mk (Kd.R_below (Zz.r HO765.out) hb); replace HO768 := Aside0.mk (Kd.R_below (Zz.r HO768.out) hb); replace BK756 := Aside0.mk (Zz.bb BK756.out hb); replace BK770 := Aside0.mk (Zz.bb BK770.out hb); replace HB := Aside0.mk (below_step (Zz.i HB.out) hb); (try clear hb)) | (go_at_call 9; (with_reducible refine (headgatelaw18_awake.calls kj5  t784 _ A111.out).mono ?_); rintro e w122 ⟨rfl, hb⟩; replace HO_757017 := Aside0.mk (Kd.R_below (Zz.r HO_757017.out) hb); replace HO765 := Aside0.mk (Kd.R_below (Zz.r HO765.out) hb); replace HO768 := Aside0.mk (Kd.R_below (Zz.r HO768.out) hb); replace BK756 := Aside0.mk (Zz.bb BK756.out hb); replace BK770 := Aside0.mk (Zz.bb BK770.out hb); replace HB := Aside0.mk (below_step (Zz.i HB.out) hb); (try clear hb)))
      go_ret
      exact ⟨by first | rfl | (simp [errW_none, errW_some] <;> rfl) | (simp [*, errW_none, errW_some] <;> rfl), by repeat (first | (with_reducible first | exact HB.out | apply below_alloc | apply pw_below_drewN | apply below_drew1 | refine below_set ?_ GE756.out | refine below_set ?_ GE770.out) | exact HB.out)⟩
     replace c110 := Bool.eq_false_iff.mpr c110
     subst c110
     have H1 : (some false) = some r := by rw [if_neg (show ¬ (false = true) by decide)] at H; exact H
     clear H
     have H := H1
     clear H1
     obtain rfl := Option.some.inj H
     exact absurd hT_ Bool.false_ne_true
    rw [if_neg c108] at H
    have c108b0 : (t769 == 2) = false := beq_eq_false_iff_ne.mpr c108
    have c108b1 : (t769 != 2) = true := bne_iff_ne.mpr c108
    obtain rfl := Option.some.inj H
    exact absurd hT_ Bool.false_ne_true
   replace c107 := Bool.eq_false_iff.mpr c107
   subst c107
   have H1 : (some false) = some r := by rw [if_neg (show ¬ (false = true) by decide)] at H; exact H
   clear H
   have H := H1
   clear H1
   obtain rfl := Option.some.inj H
   exact absurd hT_ Bool.false_ne_true
  rw [if_neg c105] at H
  have c105b0 : (t755 == 2) = false := beq_eq_false_iff_ne.mpr c105
  have c105b1 : (t755 != 2) = true := bne_iff_ne.mpr c105
  obtain rfl := Option.some.inj H
  exact absurd hT_ Bool.false_ne_true

/-- THE ONE PURE STATEMENT of headgatelaw18_WireOnly: yours. -/
def headgatelaw18_WireOnly.Pure : Prop := ∀ (a0 : ByteArray), a0.size ≤ 140737488351232 → ∃ k, headgatelaw18_WireOnly.f k a0 = some true
theorem headgatelaw18_WireOnly.walk (P : headgatelaw18_WireOnly.Pure) (a0 : ByteArray) (w : World) (w0 : a0.size ≤ 140737488351232) :
    Calls Try.prog 6 #[.string a0] w fun e w' => e = .returned (.bool true) ∧ Below w.heap.size w w' := by
 obtain ⟨k, h⟩ := P a0 w0
 refine (headgatelaw18_WireOnly.calls k a0 true w h rfl).mono ?_
 rintro e w' ⟨rfl, hd⟩
 exact ⟨rfl, hd⟩

end Go.Proofs.Ytikbpjdgihheiaa.P
