-- Written by wip/mk.py of this repo: the kit's print program, with contracts of our own among its functions.
import Derived.Test.YtikbpjdgihheiaaPx0
import Derived.Test.YtikbpjdgihheiaaPx16
import Derived.Test.YtikbpjdgihheiaaPx20
import Derived.Test.YtikbpjdgihheiaaPx21
import Derived.Test.YtikbpjdgihheiaaPx22
import Derived.Test.YtikbpjdgihheiaaZz
-- pressed
namespace Go.Proofs.Ytikbpjdgihheiaa.P
open Go.RowKit Go.Proofs.YtikbpjdgihheiaaW.PrintWords Go.Proofs.YtikbpjdgihheiaaW.PrintLast Go.Proofs.YtikbpjdgihheiaaW.PrintMore
attribute [local go_sem] max2_int min2_int max_two min_two max_three min_three max_four min_four   -- for this text's walks alone
attribute [local go_sem ↓] Kp.LDAsk_in
attribute [local go_sem] Kp.LDAsk_run
set_option linter.unusedVariables false
set_option linter.unusedSimpArgs false

/-! ### headgateref18_DecodeReply: function 13 -/
theorem headgateref18_DecodeReply.far6 {W : World} {g : Nat} {a : Addr} {x : Option Value} (h : a.block ≠ g) {o0 o1 o2 o3 o4 o5 : Nat} {v0 v1 v2 v3 v4 v5 : Value} (e : W.cell? a = x) : ((((((W.setCell ⟨g, o0, none⟩ v0).setCell ⟨g, o1, none⟩ v1).setCell ⟨g, o2, none⟩ v2).setCell ⟨g, o3, none⟩ v3).setCell ⟨g, o4, none⟩ v4).setCell ⟨g, o5, none⟩ v5).cell? a = x := ((cell_far (p := ⟨g, o5, none⟩) h v5).trans ((cell_far (p := ⟨g, o4, none⟩) h v4).trans ((cell_far (p := ⟨g, o3, none⟩) h v3).trans ((cell_far (p := ⟨g, o2, none⟩) h v2).trans ((cell_far (p := ⟨g, o1, none⟩) h v1).trans ((cell_far (p := ⟨g, o0, none⟩) h v0).trans e))))))
mutual
def headgateref18_DecodeReply.j0 : Nat → List Int → ByteArray → Bool → Int → Int → Int → Int → Option (Int × Int × Int × Int × List Int × (List (S59)) × Int)
  | 0, _, _, _, _, _, _, _ => none
  | k + 1, x5, x6, x54, x297000, x297001, x297002, x297003 => if x54 = true then (some (x297000, x297001, x297002, x297003, ([] : List Int), ([] : List (S59)), 2)) else (if 4 < (x5.length : Int) then ((headgateref01_TakeAll.f k x6 (rd x5 4)).bind fun bt307 => ((headgateref01_Take.f k bt307.2.1).bind fun bt312 => (if bt307.2.2 = 0 then (if bt312.2.2 = 0 then (if bt312.1 < 0 then (headgateref18_DecodeReply.j1 k x5 bt307.1 bt312.1 bt312.2.1 true x297000 x297001 x297002 x297003) else (headgateref18_DecodeReply.j1 k x5 bt307.1 bt312.1 bt312.2.1 (decide (bt312.1 > 2048)) x297000 x297001 x297002 x297003)) else (headgateref18_DecodeReply.j1 k x5 bt307.1 bt312.1 bt312.2.1 true x297000 x297001 x297002 x297003)) else (headgateref18_DecodeReply.j1 k x5 bt307.1 bt312.1 bt312.2.1 true x297000 x297001 x297002 x297003)))) else (none))
def headgateref18_DecodeReply.j1 : Nat → List Int → List Int → Int → ByteArray → Bool → Int → Int → Int → Int → Option (Int × Int × Int × Int × List Int × (List (S59)) × Int)
  | 0, _, _, _, _, _, _, _, _, _ => none
  | k + 1, x5, x8, x11, x12, x84, x297000, x297001, x297002, x297003 => if x84 = true then (some (x297000, x297001, x297002, x297003, ([] : List Int), ([] : List (S59)), 2)) else (if 0 < (x5.length : Int) then (if 1 < (x5.length : Int) then (if 2 < (x5.length : Int) then (if 3 < (x5.length : Int) then (headgateref18_DecodeReply.l0 k x11 x12 0 x297000 x297001 x297002 x297003 (rd x5 0) (rd x5 1) (rd x5 2) (rd x5 3) x8 ([] : List (S59))) else (none)) else (none)) else (none)) else (none))
def headgateref18_DecodeReply.l0 : Nat → Int → ByteArray → Int → Int → Int → Int → Int → Int → Int → Int → Int → List Int → List (S59) → Option (Int × Int × Int × Int × List Int × (List (S59)) × Int)
  | 0, _, _, _, _, _, _, _, _, _, _, _, _, _ => none
  | k + 1, x11, x12, x15, x297000, x297001, x297002, x297003, x320000, x320001, x320002, x320003, x320004, x320005 => if x15 < x11 then ((headgateref01_Take.f k x12).bind fun bt321 => ((headgateref06_TakeRecord.f k bt321.2.1).bind fun bt324 => (if bt321.2.2 = 0 then (if bt324.2.2.2.2 = 0 then (if x320005.length < 3518437208883 then (headgateref18_DecodeReply.l0 k x11 bt324.2.2.2.1 (wrap64 (x15 + 1)) x297000 x297001 x297002 x297003 x320000 x320001 x320002 x320003 x320004 (x320005 ++ [(⟨bt321.1, (⟨bt324.1, bt324.2.1, bt324.2.2.1⟩ : S57)⟩ : S59)])) else (none)) else (some (x297000, x297001, x297002, x297003, ([] : List Int), ([] : List (S59)), 2))) else (some (x297000, x297001, x297002, x297003, ([] : List Int), ([] : List (S59)), 2))))) else (if (x12.size : Int) > 0 then (some (x297000, x297001, x297002, x297003, ([] : List Int), ([] : List (S59)), 2)) else ((headgateref18_MayReply.f k x320000 x320001 x320002 x320003 x320004 x320005).bind fun t320 => (if t320 = true then (some (x320000, x320001, x320002, x320003, x320004, x320005, 0)) else (some (x297000, x297001, x297002, x297003, ([] : List Int), ([] : List (S59)), 2)))))
end
def headgateref18_DecodeReply.f (k : Nat) (a0 : ByteArray) : Option (Int × Int × Int × Int × List Int × (List (S59)) × Int) := (headgateref01_TakeAll.f k a0 5).bind fun bt297 => (if bt297.2.2 = 0 then (if 1 < (bt297.1.length : Int) then (if (rd bt297.1 1) < 0 then (headgateref18_DecodeReply.j0 k bt297.1 bt297.2.1 true 0 0 0 0) else (if (rd bt297.1 1) > 255 then (headgateref18_DecodeReply.j0 k bt297.1 bt297.2.1 true 0 0 0 0) else (if 4 < (bt297.1.length : Int) then (if (rd bt297.1 4) < 0 then (headgateref18_DecodeReply.j0 k bt297.1 bt297.2.1 true 0 0 0 0) else (headgateref18_DecodeReply.j0 k bt297.1 bt297.2.1 (decide ((rd bt297.1 4) > 64)) 0 0 0 0)) else (none)))) else (none)) else (headgateref18_DecodeReply.j0 k bt297.1 bt297.2.1 true 0 0 0 0))
theorem headgateref18_DecodeReply.mono_l : ∀ k, (∀ y0 y1 y2 y3 y4 y5 y6, LeO (headgateref18_DecodeReply.j0 k y0 y1 y2 y3 y4 y5 y6) (headgateref18_DecodeReply.j0 (k + 1) y0 y1 y2 y3 y4 y5 y6)) ∧ (∀ y0 y1 y2 y3 y4 y5 y6 y7 y8, LeO (headgateref18_DecodeReply.j1 k y0 y1 y2 y3 y4 y5 y6 y7 y8) (headgateref18_DecodeReply.j1 (k + 1) y0 y1 y2 y3 y4 y5 y6 y7 y8)) ∧ (∀ y0 y1 y2 y3 y4 y5 y6 y7 y8 y9 y10 y11 y12, LeO (headgateref18_DecodeReply.l0 k y0 y1 y2 y3 y4 y5 y6 y7 y8 y9 y10 y11 y12) (headgateref18_DecodeReply.l0 (k + 1) y0 y1 y2 y3 y4 y5 y6 y7 y8 y9 y10 y11 y12))
  | 0 => ⟨fun _ _ _ _ _ _ _ r h => by simp [headgateref18_DecodeReply.j0] at h, fun _ _ _ _ _ _ _ _ _ r h => by simp [headgateref18_DecodeReply.j1] at h, fun _ _ _ _ _ _ _ _ _ _ _ _ _ r h => by simp [headgateref18_DecodeReply.l0] at h⟩
  | k + 1 => by
    obtain ⟨ih0, ih1, ih2⟩ := headgateref18_DecodeReply.mono_l k
    refine ⟨?_, ?_, ?_⟩
    · intro y0 y1 y2 y3 y4 y5 y6
      unfold headgateref18_DecodeReply.j0
      repeat' first
      | (with_reducible exact ih0 _ _ _ _ _ _ _)
      | (with_reducible exact ih1 _ _ _ _ _ _ _ _ _)
      | (with_reducible exact ih2 _ _ _ _ _ _ _ _ _ _ _ _ _)
      | (with_reducible exact headgateref01_Take.mono _ _)
      | (with_reducible exact headgateref01_TakeAll.mono _ _ _)
      | (with_reducible exact headgateref06_TakeRecord.mono _ _)
      | (with_reducible exact headgateref18_MayReply.mono _ _ _ _ _ _ _)
      | (with_reducible exact LeO.refl _)
      | (with_reducible exact LeO.none _)
      | (with_reducible refine LeO.ite ?_ ?_)
      | (with_reducible refine LeO.bind ?_ (fun _ => ?_))
      | exact ih0 _ _ _ _ _ _ _
      | exact ih1 _ _ _ _ _ _ _ _ _
      | exact ih2 _ _ _ _ _ _ _ _ _ _ _ _ _
      | exact headgateref01_Take.mono _ _
      | exact headgateref01_TakeAll.mono _ _ _
      | exact headgateref06_TakeRecord.mono _ _
      | exact headgateref18_MayReply.mono _ _ _ _ _ _ _
      | exact LeO.none _
      | refine LeO.ite ?_ ?_
      | refine LeO.bind ?_ (fun _ => ?_)
    · intro y0 y1 y2 y3 y4 y5 y6 y7 y8
      unfold headgateref18_DecodeReply.j1
      repeat' first
      | (with_reducible exact ih0 _ _ _ _ _ _ _)
      | (with_reducible exact ih1 _ _ _ _ _ _ _ _ _)
      | (with_reducible exact ih2 _ _ _ _ _ _ _ _ _ _ _ _ _)
      | (with_reducible exact headgateref01_Take.mono _ _)
      | (with_reducible exact headgateref01_TakeAll.mono _ _ _)
      | (with_reducible exact headgateref06_TakeRecord.mono _ _)
      | (with_reducible exact headgateref18_MayReply.mono _ _ _ _ _ _ _)
      | (with_reducible exact LeO.refl _)
      | (with_reducible exact LeO.none _)
      | (with_reducible refine LeO.ite ?_ ?_)
      | (with_reducible refine LeO.bind ?_ (fun _ => ?_))
      | exact ih0 _ _ _ _ _ _ _
      | exact ih1 _ _ _ _ _ _ _ _ _
      | exact ih2 _ _ _ _ _ _ _ _ _ _ _ _ _
      | exact headgateref01_Take.mono _ _
      | exact headgateref01_TakeAll.mono _ _ _
      | exact headgateref06_TakeRecord.mono _ _
      | exact headgateref18_MayReply.mono _ _ _ _ _ _ _
      | exact LeO.none _
      | refine LeO.ite ?_ ?_
      | refine LeO.bind ?_ (fun _ => ?_)
    · intro y0 y1 y2 y3 y4 y5 y6 y7 y8 y9 y10 y11 y12
      unfold headgateref18_DecodeReply.l0
      repeat' first
      | (with_reducible exact ih0 _ _ _ _ _ _ _)
      | (with_reducible exact ih1 _ _ _ _ _ _ _ _ _)
      | (with_reducible exact ih2 _ _ _ _ _ _ _ _ _ _ _ _ _)
      | (with_reducible exact headgateref01_Take.mono _ _)
      | (with_reducible exact headgateref01_TakeAll.mono _ _ _)
      | (with_reducible exact headgateref06_TakeRecord.mono _ _)
      | (with_reducible exact headgateref18_MayReply.mono _ _ _ _ _ _ _)
      | (with_reducible exact LeO.refl _)
      | (with_reducible exact LeO.none _)
      | (with_reducible refine LeO.ite ?_ ?_)
      | (with_reducible refine LeO.bind ?_ (fun _ => ?_))
      | exact ih0 _ _ _ _ _ _ _
      | exact ih1 _ _ _ _ _ _ _ _ _
      | exact ih2 _ _ _ _ _ _ _ _ _ _ _ _ _
      | exact headgateref01_Take.mono _ _
      | exact headgateref01_TakeAll.mono _ _ _
      | exact headgateref06_TakeRecord.mono _ _
      | exact headgateref18_MayReply.mono _ _ _ _ _ _ _
      | exact LeO.none _
      | refine LeO.ite ?_ ?_
      | refine LeO.bind ?_ (fun _ => ?_)
theorem headgateref18_DecodeReply.mono : ∀ a0 k, LeO (headgateref18_DecodeReply.f k a0) (headgateref18_DecodeReply.f (k + 1) a0) := by
  intro a0 k
  obtain ⟨ih0, ih1, ih2⟩ := headgateref18_DecodeReply.mono_l k
  unfold headgateref18_DecodeReply.f
  repeat' first
      | (with_reducible exact ih0 _ _ _ _ _ _ _)
      | (with_reducible exact ih1 _ _ _ _ _ _ _ _ _)
      | (with_reducible exact ih2 _ _ _ _ _ _ _ _ _ _ _ _ _)
      | (with_reducible exact headgateref01_Take.mono _ _)
      | (with_reducible exact headgateref01_TakeAll.mono _ _ _)
      | (with_reducible exact headgateref06_TakeRecord.mono _ _)
      | (with_reducible exact headgateref18_MayReply.mono _ _ _ _ _ _ _)
      | (with_reducible exact LeO.refl _)
      | (with_reducible exact LeO.none _)
      | (with_reducible refine LeO.ite ?_ ?_)
      | (with_reducible refine LeO.bind ?_ (fun _ => ?_))
      | exact ih0 _ _ _ _ _ _ _
      | exact ih1 _ _ _ _ _ _ _ _ _
      | exact ih2 _ _ _ _ _ _ _ _ _ _ _ _ _
      | exact headgateref01_Take.mono _ _
      | exact headgateref01_TakeAll.mono _ _ _
      | exact headgateref06_TakeRecord.mono _ _
      | exact headgateref18_MayReply.mono _ _ _ _ _ _ _
      | exact LeO.none _
      | refine LeO.ite ?_ ?_
      | refine LeO.bind ?_ (fun _ => ?_)
def headgateref18_DecodeReply.T9 : Bool × List (List Nat × List Nat) := (true, [([], []), ([0], [0]), ([1], [1]), ([], []), ([3], [3]), ([4], [4]), ([], []), ([6], [6]), ([7], [7]), ([], []), ([9], [9]), ([10], [10]), ([], []), ([2, 5, 8, 11, 12], [2, 5, 8, 11, 12]), ([], []), ([14, 13, 0, 1, 2, 3, 4, 5, 6, 7, 8, 9, 10, 11, 12, 13, 14], [13, 14])])
def headgateref18_DecodeReply.B9 : List Nat := [0, 1, 3, 0, 8, 24, 0, 64, 192, 0, 512, 1536, 0, 8191, 0, 32767]
theorem headgateref18_DecodeReply.tab9 : rtab .any (opsOf Try.f13 9) = headgateref18_DecodeReply.T9 := by kernel_rfl
theorem headgateref18_DecodeReply.bits9 : waitsOk headgateref18_DecodeReply.T9.2 headgateref18_DecodeReply.B9 = true := by kernel_rfl
set_option maxHeartbeats 8000000 in
set_option maxRecDepth 100000 in
theorem headgateref18_DecodeReply.calls (k : Nat) (a0 : ByteArray) (r1 : Int) (r2 : Int) (r3 : Int) (r4 : Int) (r5 : List Int) (r6 : List (S59)) (r7 : Int) (w : World) (h : headgateref18_DecodeReply.f k a0 = some (r1, r2, r3, r4, r5, r6, r7)) :
    Calls Try.prog 13 #[.string a0] w fun e w' => ∃ v4_ v5_ : Value, e = .returned (.tuple #[.agg #[.int .i64 r1, .int .i64 r2, .int .i64 r3, .int .i64 r4, v4_, v5_], .int .i64 r7]) ∧ Kd.R (Kd.int .i64) 3 w' w.heap.size (fun _ => True) v4_ r5 ∧ Kd.R k59 59 w' w.heap.size (fun _ => True) v5_ r6 ∧ Below w.heap.size w w' := by
 have hu26 := Try.underlying26
 have hu57 := Try.underlying57
 have hu59 := Try.underlying59
 have HB := Aside0.mk (Below.refl w.heap.size w)
 have H : ((headgateref01_TakeAll.f k a0 5).bind fun bt297 => (if bt297.2.2 = 0 then (if 1 < (bt297.1.length : Int) then (if (rd bt297.1 1) < 0 then (headgateref18_DecodeReply.j0 k bt297.1 bt297.2.1 true 0 0 0 0) else (if (rd bt297.1 1) > 255 then (headgateref18_DecodeReply.j0 k bt297.1 bt297.2.1 true 0 0 0 0) else (if 4 < (bt297.1.length : Int) then (if (rd bt297.1 4) < 0 then (headgateref18_DecodeReply.j0 k bt297.1 bt297.2.1 true 0 0 0 0) else (headgateref18_DecodeReply.j0 k bt297.1 bt297.2.1 (decide ((rd bt297.1 4) > 64)) 0 0 0 0)) else (none)))) else (none)) else (headgateref18_DecodeReply.j0 k bt297.1 bt297.2.1 true 0 0 0 0))) = some (r1, r2, r3, r4, r5, r6, r7) := h
 clear h
 replace H := Option.bind_eq_some_iff.mp H
 obtain ⟨⟨t297, t298, t299⟩, A20, H⟩ := H
 replace H : (if t299 = 0 then (if 1 < (t297.length : Int) then (if (rd t297 1) < 0 then (headgateref18_DecodeReply.j0 k t297 t298 true 0 0 0 0) else (if (rd t297 1) > 255 then (headgateref18_DecodeReply.j0 k t297 t298 true 0 0 0 0) else (if 4 < (t297.length : Int) then (if (rd t297 4) < 0 then (headgateref18_DecodeReply.j0 k t297 t298 true 0 0 0 0) else (headgateref18_DecodeReply.j0 k t297 t298 (decide ((rd t297 4) > 64)) 0 0 0 0)) else (none)))) else (none)) else (headgateref18_DecodeReply.j0 k t297 t298 true 0 0 0 0)) = some (r1, r2, r3, r4, r5, r6, r7) := H
 have A2 := Aside0.mk A20
 clear A20
 have HC3 := Aside0.mk H
 clear H
 go_enter Try.func13, Try.ntmps13
 go_upto_region 3 with (first | ((with_reducible refine gate_dst (N := 2) rfl ?_); refine box_event ?hg (N := 2) ?hd (cs := #[.int .i64 0, .int .i64 0, .int .i64 0, .int .i64 0, .slice none 0 0, .slice none 0 0]) (t := 26) ?hr ?_; (case hd => rfl); (case hg => rfl); (case hr => first | (go_simp; done) | (go_simp; rfl)); intro gb295 hg w4 hbox hb; have BK295 := Aside0.mk (hbox); have GW295 := Aside0.mk (Zz.ge hg HB.out); have GE295 := Aside0.mk (Zz.ge hg HB.out); replace HB := Aside0.mk (below_step (Zz.i HB.out) hb); clear hb hbox hg) | ((with_reducible refine gate_dst (N := 4) rfl ?_); refine box_event ?hg (N := 4) ?hd (cs := #[.int .i64 0, .int .i64 0, .int .i64 0, .int .i64 0, .slice none 0 0, .slice none 0 0]) (t := 26) ?hr ?_; (case hd => rfl); (case hg => rfl); (case hr => first | (go_simp; done) | (go_simp; rfl)); intro gb296 hg w5 hbox hb; have BK296 := Aside0.mk (hbox); have GW296 := Aside0.mk (Zz.ge hg HB.out); have GE296 := Aside0.mk (Zz.ge hg HB.out); replace HB := Aside0.mk (below_step (Zz.i HB.out) hb); have NB295_296 := Aside0.mk (Zz.nl hg BK295.out); have NB296_295 := Aside0.mk (Zz.ng hg BK295.out); replace BK295 := Aside0.mk (Zz.bb BK295.out hb); clear hb hbox hg; have hnb6 := NB296_295.out; have hnc6 := NB295_296.out; have hcz7 := Zz.c6 BK296.out; have hfz7 := blk_frozen BK296.out) | ((with_reducible refine gate_callee (f := 34) rfl ?_); refine goesL_ (some 25) rfl rfl Try.func34 (by kernel_rfl) rfl #[.string a0, .int .i64 5] rfl Zz.g ?_; (with_reducible refine (headgateref01_TakeAll.calls k a0 5 t297 t298 t299 _ A2.out).mono ?_); rintro e w8 ⟨v300, rfl, ho0, hb⟩; refine ⟨_, rfl, ?_⟩; have n0_ := Aside0.mk (Kd.R_lower ho0 (below_size (Zz.i HB.out))); have n1_ := Aside0.mk (blk_below (g := gb295) (o := .cells #[.int .i64 0, .int .i64 0, .int .i64 0, .int .i64 0, .slice none 0 0, .slice none 0 0] 26 (0, 0)) (by (with_reducible repeat (first | refine blk_drewN ?_ _ | refine blk_drew ?_ | refine blk_alloc ?_ _)); refine blk_far ?_ NB295_296.out _; (with_reducible repeat (first | refine blk_drewN ?_ _ | refine blk_drew ?_ | refine blk_alloc ?_ _)); refine blk_far ?_ NB295_296.out _; (with_reducible repeat (first | refine blk_drewN ?_ _ | refine blk_drew ?_ | refine blk_alloc ?_ _)); refine blk_far ?_ NB295_296.out _; (with_reducible repeat (first | refine blk_drewN ?_ _ | refine blk_drew ?_ | refine blk_alloc ?_ _)); refine blk_far ?_ NB295_296.out _; (with_reducible repeat (first | refine blk_drewN ?_ _ | refine blk_drew ?_ | refine blk_alloc ?_ _)); refine blk_far ?_ NB295_296.out _; (with_reducible repeat (first | refine blk_drewN ?_ _ | refine blk_drew ?_ | refine blk_alloc ?_ _)); refine blk_far ?_ NB295_296.out _; (with_reducible repeat (first | refine blk_drewN ?_ _ | refine blk_drew ?_ | refine blk_alloc ?_ _)); exact BK295.out) hb); have n2_ := Aside0.mk (blk_below (g := gb296) (o := .cells #[.int .i64 0, .int .i64 0, .int .i64 0, .int .i64 0, .slice none 0 0, .slice none 0 0] 26 (0, 0)) (by (with_reducible repeat (first | refine blk_drewN ?_ _ | refine blk_drew ?_ | refine blk_alloc ?_ _)); refine blk_put (cs := #[.int .i64 0, .int .i64 0, .int .i64 0, .int .i64 0, .slice none 0 0, .slice none 0 0]) ?_ 5 _ rfl; (with_reducible repeat (first | refine blk_drewN ?_ _ | refine blk_drew ?_ | refine blk_alloc ?_ _)); refine blk_put (cs := #[.int .i64 0, .int .i64 0, .int .i64 0, .int .i64 0, .slice none 0 0, .slice none 0 0]) ?_ 4 _ rfl; (with_reducible repeat (first | refine blk_drewN ?_ _ | refine blk_drew ?_ | refine blk_alloc ?_ _)); refine blk_put (cs := #[.int .i64 0, .int .i64 0, .int .i64 0, .int .i64 0, .slice none 0 0, .slice none 0 0]) ?_ 3 _ rfl; (with_reducible repeat (first | refine blk_drewN ?_ _ | refine blk_drew ?_ | refine blk_alloc ?_ _)); refine blk_put (cs := #[.int .i64 0, .int .i64 0, .int .i64 0, .int .i64 0, .slice none 0 0, .slice none 0 0]) ?_ 2 _ rfl; (with_reducible repeat (first | refine blk_drewN ?_ _ | refine blk_drew ?_ | refine blk_alloc ?_ _)); refine blk_put (cs := #[.int .i64 0, .int .i64 0, .int .i64 0, .int .i64 0, .slice none 0 0, .slice none 0 0]) ?_ 1 _ rfl; (with_reducible repeat (first | refine blk_drewN ?_ _ | refine blk_drew ?_ | refine blk_alloc ?_ _)); refine blk_put (cs := #[.int .i64 0, .int .i64 0, .int .i64 0, .int .i64 0, .slice none 0 0, .slice none 0 0]) ?_ 0 _ rfl; (with_reducible repeat (first | refine blk_drewN ?_ _ | refine blk_drew ?_ | refine blk_alloc ?_ _)); exact BK296.out) hb); have n3_ := Aside0.mk (below_step (Zz.i HB.out) hb); clear BK295; clear BK296; clear HB; have HO301 := n0_; have BK295 := n1_; have BK296 := n2_; have HB := n3_; clear n0_ n1_ n2_ n3_; (try clear hb); (try clear ho0)))
 (try simp only [Act.put, List.setIfInBounds_toArray, List.set_cons_zero, List.set_cons_succ])
 go_cut [54] (fun v54 wc => ∃ (kq : Nat) (x54_2 : Bool), v54 = .bool x54_2 ∧ Aside0 (headgateref18_DecodeReply.j0 kq t297 t298 x54_2 0 0 0 0 = some (r1, r2, r3, r4, r5, r6, r7)) ∧ Aside0 (kq ≤ k) ∧ Aside0 (Kd.R (Kd.int .i64) 3 wc w.heap.size (fun _ => True) v300 t297) ∧ Aside0 (wc.heap[gb295]? = some (.cells #[.int .i64 0, .int .i64 0, .int .i64 0, .int .i64 0, (.slice none 0 0), (.slice none 0 0)] 26 (0, 0))) ∧ Aside0 (wc.heap[gb296]? = some (.cells #[.int .i64 0, .int .i64 0, .int .i64 0, .int .i64 0, (.slice none 0 0), (.slice none 0 0)] 26 (0, 0))) ∧ Aside0 (Below w.heap.size w wc))
 case first =>
  have H := HC3.out
  clear HC3
  by_cases c9 : t299 = 0
  ·rw [if_pos c9] at H
   have c9b0 : (t299 == 0) = true := beq_iff_eq.mpr c9
   have c9b1 : (t299 != 0) = false := bne_eq_false_iff_eq.mpr c9
   clear c9
   (first | rw [c9b0] | rw [c9b9] | (simp only [i64_w, i32_w]; rw [c9b0]) | skip)
   by_cases c10 : 1 < (t297.length : Int)
   ·rw [if_pos c10] at H
    have c10b0 : decide (1 < (t297.length : Int)) = true := decide_eq_true c10
    have c10b1 : decide (1 < t297.length) = true := decide_eq_true (by omega)
    clear c10
    by_cases c11 : (rd t297 1) < 0
    ·rw [if_pos c11] at H
     have c11b0 : decide ((rd t297 1) < 0) = true := decide_eq_true c11
     clear c11
     have H' := Aside0.mk H
     clear H
     obtain ⟨Ao12, co12, eo12⟩ := Kd.R_slice HO301.out
     subst eo12
     have p302 : 0 ≤ (1 : Int) := (by omega)
     have q302 : 1 < (t297.length : Int) := of_decide_eq_true (by first | (with_reducible assumption) | assumption)
     obtain ⟨ad302, e302, hx302_0⟩ := Kd.at_int (Kd.R_reads' HO301.out).2.2 1 p302 q302
     cases e302
     (try simp only [show (1 : Int).toNat = 1 from rfl, Nat.reduceMul, Nat.reduceEqDiff, Go.Addr.add, ↓reduceIte] at hx302_0)
     have qi302 : (1 < t297.length) = True := eq_true (by omega)
     (try rw [show ((1 : Int)).toNat = 1 from rfl] at hx302_0)
     replace p302 := eq_true p302
     replace q302 := eq_true q302
     go_wp2
     go_meet
     case rel => exact ⟨_, (true), Zz.q, H', ⟨by first | omega | exact Nat.le_refl _⟩, ⟨Zz.r HO301.out⟩, ⟨Zz.p BK295.out⟩, ⟨Zz.p BK296.out⟩, ⟨by repeat (first | (with_reducible first | exact HB.out | apply below_alloc | apply pw_below_drewN | apply below_drew1 | refine below_set ?_ GE295.out | refine below_set ?_ GE296.out) | exact HB.out)⟩⟩
    rw [if_neg c11] at H
    have c11b0 : decide ((rd t297 1) < 0) = false := decide_eq_false c11
    clear c11
    by_cases c13 : (rd t297 1) > 255
    ·rw [if_pos c13] at H
     have c13b0 : decide (255 < (rd t297 1)) = true := decide_eq_true c13
     clear c13
     have H' := Aside0.mk H
     clear H
     obtain ⟨Ao14, co14, eo14⟩ := Kd.R_slice HO301.out
     subst eo14
     have p302 : 0 ≤ (1 : Int) := (by omega)
     have q302 : 1 < (t297.length : Int) := of_decide_eq_true (by first | (with_reducible assumption) | assumption)
     obtain ⟨ad302, e302, hx302_0⟩ := Kd.at_int (Kd.R_reads' HO301.out).2.2 1 p302 q302
     cases e302
     (try simp only [show (1 : Int).toNat = 1 from rfl, Nat.reduceMul, Nat.reduceEqDiff, Go.Addr.add, ↓reduceIte] at hx302_0)
     have qi302 : (1 < t297.length) = True := eq_true (by omega)
     (try rw [show ((1 : Int)).toNat = 1 from rfl] at hx302_0)
     replace p302 := eq_true p302
     replace q302 := eq_true q302
     have p303 : 0 ≤ (1 : Int) := (by omega)
     have q303 : 1 < (t297.length : Int) := of_decide_eq_true (by first | (with_reducible assumption) | assumption)
     obtain ⟨ad303, e303, hx303_0⟩ := Kd.at_int (Kd.R_reads' HO301.out).2.2 1 p303 q303
     obtain rfl : ad302 = ad303 := (by injection e303)
     (try simp only [show (1 : Int).toNat = 1 from rfl, Nat.reduceMul, Nat.reduceEqDiff, Go.Addr.add, ↓reduceIte] at hx303_0)
     have qi303 : (1 < t297.length) = True := eq_true (by omega)
     (try rw [show ((1 : Int)).toNat = 1 from rfl] at hx303_0)
     replace p303 := eq_true p303
     replace q303 := eq_true q303
     go_wp2
     go_meet
     case rel => exact ⟨_, (true), Zz.q, H', ⟨by first | omega | exact Nat.le_refl _⟩, ⟨Zz.r HO301.out⟩, ⟨Zz.p BK295.out⟩, ⟨Zz.p BK296.out⟩, ⟨by repeat (first | (with_reducible first | exact HB.out | apply below_alloc | apply pw_below_drewN | apply below_drew1 | refine below_set ?_ GE295.out | refine below_set ?_ GE296.out) | exact HB.out)⟩⟩
    rw [if_neg c13] at H
    have c13b0 : decide (255 < (rd t297 1)) = false := decide_eq_false c13
    clear c13
    by_cases c15 : 4 < (t297.length : Int)
    ·rw [if_pos c15] at H
     have c15b0 : decide (4 < (t297.length : Int)) = true := decide_eq_true c15
     have c15b1 : decide (4 < t297.length) = true := decide_eq_true (by omega)
     clear c15
     by_cases c16 : (rd t297 4) < 0
     ·rw [if_pos c16] at H
      have c16b0 : decide ((rd t297 4) < 0) = true := decide_eq_true c16
      clear c16
      have H' := Aside0.mk H
      clear H
      obtain ⟨Ao17, co17, eo17⟩ := Kd.R_slice HO301.out
      subst eo17
      have p302 : 0 ≤ (1 : Int) := (by omega)
      have q302 : 1 < (t297.length : Int) := of_decide_eq_true (by first | (with_reducible assumption) | assumption)
      obtain ⟨ad302, e302, hx302_0⟩ := Kd.at_int (Kd.R_reads' HO301.out).2.2 1 p302 q302
      cases e302
      (try simp only [show (1 : Int).toNat = 1 from rfl, Nat.reduceMul, Nat.reduceEqDiff, Go.Addr.add, ↓reduceIte] at hx302_0)
      have qi302 : (1 < t297.length) = True := eq_true (by omega)
      (try rw [show ((1 : Int)).toNat = 1 from rfl] at hx302_0)
      replace p302 := eq_true p302
      replace q302 := eq_true q302
      have p303 : 0 ≤ (1 : Int) := (by omega)
      have q303 : 1 < (t297.length : Int) := of_decide_eq_true (by first | (with_reducible assumption) | assumption)
      obtain ⟨ad303, e303, hx303_0⟩ := Kd.at_int (Kd.R_reads' HO301.out).2.2 1 p303 q303
      obtain rfl : ad302 = ad303 := (by injection e303)
      (try simp only [show (1 : Int).toNat = 1 from rfl, Nat.reduceMul, Nat.reduceEqDiff, Go.Addr.add, ↓reduceIte] at hx303_0)
      have qi303 : (1 < t297.length) = True := eq_true (by omega)
      (try rw [show ((1 : Int)).toNat = 1 from rfl] at hx303_0)
      replace p303 := eq_true p303
      replace q303 := eq_true q303
      have p304 : 0 ≤ (4 : Int) := (by omega)
      have q304 : 4 < (t297.length : Int) := of_decide_eq_true (by first | (with_reducible assumption) | assumption)
      obtain ⟨ad304, e304, hx304_0⟩ := Kd.at_int (Kd.R_reads' HO301.out).2.2 4 p304 q304
      obtain rfl : ad302 = ad304 := (by injection e304)
      (try simp only [show (4 : Int).toNat = 4 from rfl, Nat.reduceMul, Nat.reduceEqDiff, Go.Addr.add, ↓reduceIte] at hx304_0)
      have qi304 : (4 < t297.length) = True := eq_true (by omega)
      (try rw [show ((4 : Int)).toNat = 4 from rfl] at hx304_0)
      replace p304 := eq_true p304
      replace q304 := eq_true q304
      go_wp2
      go_meet
      case rel => exact ⟨_, (true), Zz.q, H', ⟨by first | omega | exact Nat.le_refl _⟩, ⟨Zz.r HO301.out⟩, ⟨Zz.p BK295.out⟩, ⟨Zz.p BK296.out⟩, ⟨by repeat (first | (with_reducible first | exact HB.out | apply below_alloc | apply pw_below_drewN | apply below_drew1 | refine below_set ?_ GE295.out | refine below_set ?_ GE296.out) | exact HB.out)⟩⟩
     rw [if_neg c16] at H
     have c16b0 : decide ((rd t297 4) < 0) = false := decide_eq_false c16
     clear c16
     have H' := Aside0.mk H
     clear H
     obtain ⟨Ao18, co18, eo18⟩ := Kd.R_slice HO301.out
     subst eo18
     have p302 : 0 ≤ (1 : Int) := (by omega)
     have q302 : 1 < (t297.length : Int) := of_decide_eq_true (by first | (with_reducible assumption) | assumption)
     obtain ⟨ad302, e302, hx302_0⟩ := Kd.at_int (Kd.R_reads' HO301.out).2.2 1 p302 q302
     cases e302
     (try simp only [show (1 : Int).toNat = 1 from rfl, Nat.reduceMul, Nat.reduceEqDiff, Go.Addr.add, ↓reduceIte] at hx302_0)
     have qi302 : (1 < t297.length) = True := eq_true (by omega)
     (try rw [show ((1 : Int)).toNat = 1 from rfl] at hx302_0)
     replace p302 := eq_true p302
     replace q302 := eq_true q302
     have p303 : 0 ≤ (1 : Int) := (by omega)
     have q303 : 1 < (t297.length : Int) := of_decide_eq_true (by first | (with_reducible assumption) | assumption)
     obtain ⟨ad303, e303, hx303_0⟩ := Kd.at_int (Kd.R_reads' HO301.out).2.2 1 p303 q303
     obtain rfl : ad302 = ad303 := (by injection e303)
     (try simp only [show (1 : Int).toNat = 1 from rfl, Nat.reduceMul, Nat.reduceEqDiff, Go.Addr.add, ↓reduceIte] at hx303_0)
     have qi303 : (1 < t297.length) = True := eq_true (by omega)
     (try rw [show ((1 : Int)).toNat = 1 from rfl] at hx303_0)
     replace p303 := eq_true p303
     replace q303 := eq_true q303
     have p304 : 0 ≤ (4 : Int) := (by omega)
     have q304 : 4 < (t297.length : Int) := of_decide_eq_true (by first | (with_reducible assumption) | assumption)
     obtain ⟨ad304, e304, hx304_0⟩ := Kd.at_int (Kd.R_reads' HO301.out).2.2 4 p304 q304
     obtain rfl : ad302 = ad304 := (by injection e304)
     (try simp only [show (4 : Int).toNat = 4 from rfl, Nat.reduceMul, Nat.reduceEqDiff, Go.Addr.add, ↓reduceIte] at hx304_0)
     have qi304 : (4 < t297.length) = True := eq_true (by omega)
     (try rw [show ((4 : Int)).toNat = 4 from rfl] at hx304_0)
     replace p304 := eq_true p304
     replace q304 := eq_true q304
     have p305 : 0 ≤ (4 : Int) := (by omega)
     have q305 : 4 < (t297.length : Int) := of_decide_eq_true (by first | (with_reducible assumption) | assumption)
     obtain ⟨ad305, e305, hx305_0⟩ := Kd.at_int (Kd.R_reads' HO301.out).2.2 4 p305 q305
     obtain rfl : ad302 = ad305 := (by injection e305)
     (try simp only [show (4 : Int).toNat = 4 from rfl, Nat.reduceMul, Nat.reduceEqDiff, Go.Addr.add, ↓reduceIte] at hx305_0)
     have qi305 : (4 < t297.length) = True := eq_true (by omega)
     (try rw [show ((4 : Int)).toNat = 4 from rfl] at hx305_0)
     replace p305 := eq_true p305
     replace q305 := eq_true q305
     go_wp2
     go_meet
     case rel => exact ⟨_, (decide ((rd t297 4) > 64)), Zz.q, H', ⟨by first | omega | exact Nat.le_refl _⟩, ⟨Zz.r HO301.out⟩, ⟨Zz.p BK295.out⟩, ⟨Zz.p BK296.out⟩, ⟨by repeat (first | (with_reducible first | exact HB.out | apply below_alloc | apply pw_below_drewN | apply below_drew1 | refine below_set ?_ GE295.out | refine below_set ?_ GE296.out) | exact HB.out)⟩⟩
    rw [if_neg c15] at H
    exact absurd H (by simp)
   rw [if_neg c10] at H
   exact absurd H (by simp)
  rw [if_neg c9] at H
  have c9b0 : (t299 == 0) = false := beq_eq_false_iff_ne.mpr c9
  have c9b1 : (t299 != 0) = true := bne_iff_ne.mpr c9
  (first | rw [c9b0] | rw [c9b9] | (simp only [i64_w, i32_w]; rw [c9b0]) | skip)
  have H' := Aside0.mk H
  clear H
  go_wp2
  go_meet
  case rel => exact ⟨_, (true), Zz.q, H', ⟨by first | omega | exact Nat.le_refl _⟩, ⟨Zz.r HO301.out⟩, ⟨Zz.p BK295.out⟩, ⟨Zz.p BK296.out⟩, ⟨by repeat (first | (with_reducible first | exact HB.out | apply below_alloc | apply pw_below_drewN | apply below_drew1 | refine below_set ?_ GE295.out | refine below_set ?_ GE296.out) | exact HB.out)⟩⟩
 clear HC3
 (try clear c1);(try clear p2);(try clear c3);(try clear p3);(try clear q3);(try clear hx3);(try clear qi3);(try clear c6);(try clear c9);(try clear c9b0);(try clear c9b1);(try clear c10);(try clear c10b0);(try clear c10b1);(try clear c11);(try clear c11b0);(try clear c13);(try clear c13b0);(try clear c15);(try clear c15b0);(try clear c15b1);(try clear c16);(try clear c16b0);(try clear hcz7);(try clear hfz7);(try clear hx302_0);(try clear hx303_0);(try clear hx304_0);(try clear hx305_0);(try clear p302);(try clear p303);(try clear p304);(try clear p305);(try clear q302);(try clear q303);(try clear q304);(try clear q305)
 obtain ⟨kq, x54_2, rfl, HA, HJ2, HO_5, BK295, BK296, HB⟩ := hcut
 cases kq with
 | zero => exact absurd HA.out (by simp [headgateref18_DecodeReply.j0])
 | succ kj2 =>
  have H := HA.out
  clear HA
  simp only [headgateref18_DecodeReply.j0] at H
  by_cases c19 : x54_2 = true
  ·subst c19
   have H1 : (some (0, 0, 0, 0, ([] : List Int), ([] : List (S59)), 2)) = some (r1, r2, r3, r4, r5, r6, r7) := by rw [if_pos rfl] at H; exact H
   clear H
   have H := H1
   clear H1
   simp only [Option.some.injEq, Prod.mk.injEq] at H
   obtain ⟨rfl, rfl, rfl, rfl, rfl, rfl, rfl⟩ := H
   have hnb20 := NB296_295.out
   have hnc20 := NB295_296.out
   have hcz21 := Zz.c6 BK296.out
   have hfz21 := blk_frozen BK296.out
   have hcz22 := Zz.c6 BK295.out
   have hfz22 := blk_frozen BK295.out
   go_wp2
   refine bodyPost_ret (results_ct rfl _ _ gb295 26 #[.int .i64 0, .int .i64 0, .int .i64 0, .int .i64 0, .slice none 0 0, .slice none 0 0] (0, 0) _ rfl (by (with_reducible repeat (first | refine blk_drewN ?_ _ | refine blk_drew ?_ | refine blk_alloc ?_ _)); refine blk_put (cs := #[.int .i64 0, .int .i64 0, .int .i64 0, .int .i64 0, .slice none 0 0, .slice none 0 0]) ?_ 5 _ rfl; (with_reducible repeat (first | refine blk_drewN ?_ _ | refine blk_drew ?_ | refine blk_alloc ?_ _)); refine blk_put (cs := #[.int .i64 0, .int .i64 0, .int .i64 0, .int .i64 0, .slice none 0 0, .slice none 0 0]) ?_ 4 _ rfl; (with_reducible repeat (first | refine blk_drewN ?_ _ | refine blk_drew ?_ | refine blk_alloc ?_ _)); refine blk_put (cs := #[.int .i64 0, .int .i64 0, .int .i64 0, .int .i64 0, .slice none 0 0, .slice none 0 0]) ?_ 3 _ rfl; (with_reducible repeat (first | refine blk_drewN ?_ _ | refine blk_drew ?_ | refine blk_alloc ?_ _)); refine blk_put (cs := #[.int .i64 0, .int .i64 0, .int .i64 0, .int .i64 0, .slice none 0 0, .slice none 0 0]) ?_ 2 _ rfl; (with_reducible repeat (first | refine blk_drewN ?_ _ | refine blk_drew ?_ | refine blk_alloc ?_ _)); refine blk_put (cs := #[.int .i64 0, .int .i64 0, .int .i64 0, .int .i64 0, .slice none 0 0, .slice none 0 0]) ?_ 1 _ rfl; (with_reducible repeat (first | refine blk_drewN ?_ _ | refine blk_drew ?_ | refine blk_alloc ?_ _)); refine blk_put (cs := #[.int .i64 0, .int .i64 0, .int .i64 0, .int .i64 0, .slice none 0 0, .slice none 0 0]) ?_ 0 _ rfl; (with_reducible repeat (first | refine blk_drewN ?_ _ | refine blk_drew ?_ | refine blk_alloc ?_ _)); exact BK295.out) Try.underlying26 rfl (by kernel_rfl)) rfl ?_
   exact ⟨_, _, by first | rfl | (simp [errW_none, errW_some] <;> rfl) | (simp [*, errW_none, errW_some] <;> rfl), by first | exact Kd.R_nil _ _ _ _ _ | exact Kd.N_nil _ _ _ _ _ | exact Kd.V_nil _ _ _ _ _ | exact Kd.Q_nil _ _ _ _ _ | exact Kd.S_nil _ _ _ _ _, by first | exact Kd.R_nil _ _ _ _ _ | exact Kd.N_nil _ _ _ _ _ | exact Kd.V_nil _ _ _ _ _ | exact Kd.Q_nil _ _ _ _ _ | exact Kd.S_nil _ _ _ _ _, by repeat (first | (with_reducible first | exact HB.out | apply below_alloc | apply pw_below_drewN | apply below_drew1 | refine below_set ?_ GE295.out | refine below_set ?_ GE296.out) | exact HB.out)⟩
  replace c19 := Bool.eq_false_iff.mpr c19
  subst c19
  have H1 : (if 4 < (t297.length : Int) then ((headgateref01_TakeAll.f kj2 t298 (rd t297 4)).bind fun bt307 => ((headgateref01_Take.f kj2 bt307.2.1).bind fun bt312 => (if bt307.2.2 = 0 then (if bt312.2.2 = 0 then (if bt312.1 < 0 then (headgateref18_DecodeReply.j1 kj2 t297 bt307.1 bt312.1 bt312.2.1 true 0 0 0 0) else (headgateref18_DecodeReply.j1 kj2 t297 bt307.1 bt312.1 bt312.2.1 (decide (bt312.1 > 2048)) 0 0 0 0)) else (headgateref18_DecodeReply.j1 kj2 t297 bt307.1 bt312.1 bt312.2.1 true 0 0 0 0)) else (headgateref18_DecodeReply.j1 kj2 t297 bt307.1 bt312.1 bt312.2.1 true 0 0 0 0)))) else (none)) = some (r1, r2, r3, r4, r5, r6, r7) := by rw [if_neg (show ¬ (false = true) by decide)] at H; exact H
  clear H
  have H := H1
  clear H1
  by_cases c23 : 4 < (t297.length : Int)
  ·rw [if_pos c23] at H
   have c23b0 : decide (4 < (t297.length : Int)) = true := decide_eq_true c23
   have c23b1 : decide (4 < t297.length) = true := decide_eq_true (by omega)
   clear c23
   replace H := Option.bind_eq_some_iff.mp H
   obtain ⟨⟨t307, t308, t309⟩, A240, H⟩ := H
   replace H : ((headgateref01_Take.f kj2 t308).bind fun bt312 => (if t309 = 0 then (if bt312.2.2 = 0 then (if bt312.1 < 0 then (headgateref18_DecodeReply.j1 kj2 t297 t307 bt312.1 bt312.2.1 true 0 0 0 0) else (headgateref18_DecodeReply.j1 kj2 t297 t307 bt312.1 bt312.2.1 (decide (bt312.1 > 2048)) 0 0 0 0)) else (headgateref18_DecodeReply.j1 kj2 t297 t307 bt312.1 bt312.2.1 true 0 0 0 0)) else (headgateref18_DecodeReply.j1 kj2 t297 t307 bt312.1 bt312.2.1 true 0 0 0 0))) = some (r1, r2, r3, r4, r5, r6, r7) := H
   have A24 := Aside0.mk A240
   clear A240
   replace H := Option.bind_eq_some_iff.mp H
   obtain ⟨⟨t312, t313, t314⟩, A250, H⟩ := H
   replace H : (if t309 = 0 then (if t314 = 0 then (if t312 < 0 then (headgateref18_DecodeReply.j1 kj2 t297 t307 t312 t313 true 0 0 0 0) else (headgateref18_DecodeReply.j1 kj2 t297 t307 t312 t313 (decide (t312 > 2048)) 0 0 0 0)) else (headgateref18_DecodeReply.j1 kj2 t297 t307 t312 t313 true 0 0 0 0)) else (headgateref18_DecodeReply.j1 kj2 t297 t307 t312 t313 true 0 0 0 0)) = some (r1, r2, r3, r4, r5, r6, r7) := H
   have A25 := Aside0.mk A250
   clear A250
   have HC26 := Aside0.mk H
   clear H
   obtain ⟨Ao27, co27, eo27⟩ := Kd.R_slice HO_5.out
   subst eo27
   have p306 : 0 ≤ (4 : Int) := (by omega)
   have q306 : 4 < (t297.length : Int) := of_decide_eq_true (by first | (with_reducible assumption) | assumption)
   obtain ⟨ad306, e306, hx306_0⟩ := Kd.at_int (Kd.R_reads' HO_5.out).2.2 4 p306 q306
   cases e306
   (try simp only [show (4 : Int).toNat = 4 from rfl, Nat.reduceMul, Nat.reduceEqDiff, Go.Addr.add, ↓reduceIte] at hx306_0)
   have qi306 : (4 < t297.length) = True := eq_true (by omega)
   (try rw [show ((4 : Int)).toNat = 4 from rfl] at hx306_0)
   replace p306 := eq_true p306
   replace q306 := eq_true q306
   go_upto_region 7 with (first | ((with_reducible refine gate_callee (f := 34) rfl ?_); refine goesL_ (some 61) rfl rfl Try.func34 (by kernel_rfl) rfl #[.string t298, .int .i64 (rd t297 4)] rfl Zz.g ?_; (with_reducible refine (headgateref01_TakeAll.calls kj2 t298 (rd t297 4) t307 t308 t309 _ A24.out).mono ?_); rintro e w28 ⟨v310, rfl, ho0, hb⟩; refine ⟨_, rfl, ?_⟩; have HO311 := Aside0.mk (Kd.R_lower (Kd.R_new' ho0 (Kd.R_lt (Zz.r HO_5.out))) (below_size (Zz.i HB.out))); replace HO_5 := Aside0.mk (Kd.R_elder' (Zz.r HO_5.out) (Kd.R_base ho0) hb); replace BK295 := Aside0.mk (Zz.bb BK295.out hb); replace BK296 := Aside0.mk (Zz.bb BK296.out hb); replace HB := Aside0.mk (below_step (Zz.i HB.out) hb); (try clear hb); (try clear ho0)) | ((with_reducible refine gate_callee (f := 35) rfl ?_); refine goesL_ (some 67) rfl rfl Try.func35 (by kernel_rfl) rfl #[.string t308] rfl Zz.g ?_; (with_reducible refine (headgateref01_Take.calls kj2 t308 t312 t313 t314 _ A25.out).mono ?_); rintro e w29 ⟨rfl, hb⟩; refine ⟨_, rfl, ?_⟩; replace HO_5 := Aside0.mk (Kd.R_below (Zz.r HO_5.out) hb); replace HO311 := Aside0.mk (Kd.R_below (Zz.r HO311.out) hb); replace BK295 := Aside0.mk (Zz.bb BK295.out hb); replace BK296 := Aside0.mk (Zz.bb BK296.out hb); replace HB := Aside0.mk (below_step (Zz.i HB.out) hb); (try clear hb)))
   (try simp only [Act.put, List.setIfInBounds_toArray, List.set_cons_zero, List.set_cons_succ])
   go_cut [84] (fun v84 wc => ∃ (kq : Nat) (x84_25 : Bool), v84 = .bool x84_25 ∧ Aside0 (headgateref18_DecodeReply.j1 kq t297 t307 t312 t313 x84_25 0 0 0 0 = some (r1, r2, r3, r4, r5, r6, r7)) ∧ Aside0 (kq ≤ kj2) ∧ Aside0 (Kd.R (Kd.int .i64) 3 wc w.heap.size (fun k_ => some k_ ≠ (v310 : Value).ownBlock) (.slice (some ad306) t297.length co27) t297) ∧ Aside0 (Kd.R (Kd.int .i64) 3 wc w.heap.size (fun k_ => some k_ ≠ ((.slice (some ad306) t297.length co27) : Value).ownBlock) v310 t307) ∧ Aside0 (wc.heap[gb295]? = some (.cells #[.int .i64 0, .int .i64 0, .int .i64 0, .int .i64 0, (.slice none 0 0), (.slice none 0 0)] 26 (0, 0))) ∧ Aside0 (wc.heap[gb296]? = some (.cells #[.int .i64 0, .int .i64 0, .int .i64 0, .int .i64 0, (.slice none 0 0), (.slice none 0 0)] 26 (0, 0))) ∧ Aside0 (Below w.heap.size w wc))
   case first =>
    have H := HC26.out
    clear HC26
    by_cases c30 : t309 = 0
    ·rw [if_pos c30] at H
     have c30b0 : (t309 == 0) = true := beq_iff_eq.mpr c30
     have c30b1 : (t309 != 0) = false := bne_eq_false_iff_eq.mpr c30
     clear c30
     (first | rw [c30b0] | rw [c30b9] | (simp only [i64_w, i32_w]; rw [c30b0]) | skip)
     by_cases c31 : t314 = 0
     ·rw [if_pos c31] at H
      have c31b0 : (t314 == 0) = true := beq_iff_eq.mpr c31
      have c31b1 : (t314 != 0) = false := bne_eq_false_iff_eq.mpr c31
      clear c31
      by_cases c32 : t312 < 0
      ·rw [if_pos c32] at H
       have c32b0 : decide (t312 < 0) = true := decide_eq_true c32
       clear c32
       have H' := Aside0.mk H
       clear H
       go_wp2
       go_meet
       case rel => exact ⟨_, (true), Zz.q, H', ⟨by have := HJ2.out; first | omega | exact Nat.le_refl _⟩, ⟨by (with_reducible repeat (first | apply Kd.R_alloc | apply Kd.R_drewN | apply Kd.R_drew)); exact Kd.R_mono HO_5.out (fun _ hk => hk.2)⟩, ⟨by (with_reducible repeat (first | apply Kd.R_alloc | apply Kd.R_drewN | apply Kd.R_drew)); exact Kd.R_mono HO311.out (fun _ hk => hk.2)⟩, ⟨Zz.p BK295.out⟩, ⟨Zz.p BK296.out⟩, ⟨by repeat (first | (with_reducible first | exact HB.out | apply below_alloc | apply pw_below_drewN | apply below_drew1 | refine below_set ?_ GE295.out | refine below_set ?_ GE296.out) | exact HB.out)⟩⟩
      rw [if_neg c32] at H
      have c32b0 : decide (t312 < 0) = false := decide_eq_false c32
      clear c32
      have H' := Aside0.mk H
      clear H
      go_wp2
      go_meet
      case rel => exact ⟨_, (decide (t312 > 2048)), Zz.q, H', ⟨by have := HJ2.out; first | omega | exact Nat.le_refl _⟩, ⟨by (with_reducible repeat (first | apply Kd.R_alloc | apply Kd.R_drewN | apply Kd.R_drew)); exact Kd.R_mono HO_5.out (fun _ hk => hk.2)⟩, ⟨by (with_reducible repeat (first | apply Kd.R_alloc | apply Kd.R_drewN | apply Kd.R_drew)); exact Kd.R_mono HO311.out (fun _ hk => hk.2)⟩, ⟨Zz.p BK295.out⟩, ⟨Zz.p BK296.out⟩, ⟨by repeat (first | (with_reducible first | exact HB.out | apply below_alloc | apply pw_below_drewN | apply below_drew1 | refine below_set ?_ GE295.out | refine below_set ?_ GE296.out) | exact HB.out)⟩⟩
     rw [if_neg c31] at H
     have c31b0 : (t314 == 0) = false := beq_eq_false_iff_ne.mpr c31
     have c31b1 : (t314 != 0) = true := bne_iff_ne.mpr c31
     have H' := Aside0.mk H
     clear H
     go_wp2
     go_meet
     case rel => exact ⟨_, (true), Zz.q, H', ⟨by have := HJ2.out; first | omega | exact Nat.le_refl _⟩, ⟨by (with_reducible repeat (first | apply Kd.R_alloc | apply Kd.R_drewN | apply Kd.R_drew)); exact Kd.R_mono HO_5.out (fun _ hk => hk.2)⟩, ⟨by (with_reducible repeat (first | apply Kd.R_alloc | apply Kd.R_drewN | apply Kd.R_drew)); exact Kd.R_mono HO311.out (fun _ hk => hk.2)⟩, ⟨Zz.p BK295.out⟩, ⟨Zz.p BK296.out⟩, ⟨by repeat (first | (with_reducible first | exact HB.out | apply below_alloc | apply pw_below_drewN | apply below_drew1 | refine below_set ?_ GE295.out | refine below_set ?_ GE296.out) | exact HB.out)⟩⟩
    rw [if_neg c30] at H
    have c30b0 : (t309 == 0) = false := beq_eq_false_iff_ne.mpr c30
    have c30b1 : (t309 != 0) = true := bne_iff_ne.mpr c30
    (first | rw [c30b0] | rw [c30b9] | (simp only [i64_w, i32_w]; rw [c30b0]) | skip)
    have H' := Aside0.mk H
    clear H
    go_wp2
    go_meet
    case rel => exact ⟨_, (true), Zz.q, H', ⟨by have := HJ2.out; first | omega | exact Nat.le_refl _⟩, ⟨by (with_reducible repeat (first | apply Kd.R_alloc | apply Kd.R_drewN | apply Kd.R_drew)); exact Kd.R_mono HO_5.out (fun _ hk => hk.2)⟩, ⟨by (with_reducible repeat (first | apply Kd.R_alloc | apply Kd.R_drewN | apply Kd.R_drew)); exact Kd.R_mono HO311.out (fun _ hk => hk.2)⟩, ⟨Zz.p BK295.out⟩, ⟨Zz.p BK296.out⟩, ⟨by repeat (first | (with_reducible first | exact HB.out | apply below_alloc | apply pw_below_drewN | apply below_drew1 | refine below_set ?_ GE295.out | refine below_set ?_ GE296.out) | exact HB.out)⟩⟩
   clear HC26
   (try clear c1);(try clear c2);(try clear p2);(try clear c3);(try clear p3);(try clear q3);(try clear hx3);(try clear qi3);(try clear c6);(try clear c9);(try clear c9b0);(try clear c9b1);(try clear c10);(try clear c10b0);(try clear c10b1);(try clear c11);(try clear c11b0);(try clear c13);(try clear c13b0);(try clear c15);(try clear c15b0);(try clear c15b1);(try clear c16);(try clear c16b0);(try clear c19);(try clear c20);(try clear c23);(try clear c23b0);(try clear c23b1);(try clear c30);(try clear c30b0);(try clear c30b1);(try clear p30);(try clear q30);(try clear hx30);(try clear qi30);(try clear c31);(try clear c31b0);(try clear c31b1);(try clear c32);(try clear c32b0);(try clear hcz21);(try clear hcz22);(try clear hcz7);(try clear hfz21);(try clear hfz22);(try clear hfz7);(try clear hx302_0);(try clear hx303_0);(try clear hx304_0);(try clear hx305_0);(try clear hx306_0);(try clear p302);(try clear p303);(try clear p304);(try clear p305);(try clear p306);(try clear q302);(try clear q303);(try clear q304);(try clear q305);(try clear q306)
   obtain ⟨kq, x84_25, rfl, HA, HJ25, HO_5, HO_8, BK295, BK296, HB⟩ := hcut
   cases kq with
   | zero => exact absurd HA.out (by simp [headgateref18_DecodeReply.j1])
   | succ kj25 =>
    have H := HA.out
    clear HA
    simp only [headgateref18_DecodeReply.j1] at H
    by_cases c33 : x84_25 = true
    ·subst c33
     have H1 : (some (0, 0, 0, 0, ([] : List Int), ([] : List (S59)), 2)) = some (r1, r2, r3, r4, r5, r6, r7) := by rw [if_pos rfl] at H; exact H
     clear H
     have H := H1
     clear H1
     simp only [Option.some.injEq, Prod.mk.injEq] at H
     obtain ⟨rfl, rfl, rfl, rfl, rfl, rfl, rfl⟩ := H
     have hnb34 := NB296_295.out
     have hnc34 := NB295_296.out
     have hcz35 := Zz.c6 BK296.out
     have hfz35 := blk_frozen BK296.out
     have hcz36 := Zz.c6 BK295.out
     have hfz36 := blk_frozen BK295.out
     go_wp2
     refine bodyPost_ret (results_ct rfl _ _ gb295 26 #[.int .i64 0, .int .i64 0, .int .i64 0, .int .i64 0, .slice none 0 0, .slice none 0 0] (0, 0) _ rfl (by (with_reducible repeat (first | refine blk_drewN ?_ _ | refine blk_drew ?_ | refine blk_alloc ?_ _)); refine blk_put (cs := #[.int .i64 0, .int .i64 0, .int .i64 0, .int .i64 0, .slice none 0 0, .slice none 0 0]) ?_ 5 _ rfl; (with_reducible repeat (first | refine blk_drewN ?_ _ | refine blk_drew ?_ | refine blk_alloc ?_ _)); refine blk_put (cs := #[.int .i64 0, .int .i64 0, .int .i64 0, .int .i64 0, .slice none 0 0, .slice none 0 0]) ?_ 4 _ rfl; (with_reducible repeat (first | refine blk_drewN ?_ _ | refine blk_drew ?_ | refine blk_alloc ?_ _)); refine blk_put (cs := #[.int .i64 0, .int .i64 0, .int .i64 0, .int .i64 0, .slice none 0 0, .slice none 0 0]) ?_ 3 _ rfl; (with_reducible repeat (first | refine blk_drewN ?_ _ | refine blk_drew ?_ | refine blk_alloc ?_ _)); refine blk_put (cs := #[.int .i64 0, .int .i64 0, .int .i64 0, .int .i64 0, .slice none 0 0, .slice none 0 0]) ?_ 2 _ rfl; (with_reducible repeat (first | refine blk_drewN ?_ _ | refine blk_drew ?_ | refine blk_alloc ?_ _)); refine blk_put (cs := #[.int .i64 0, .int .i64 0, .int .i64 0, .int .i64 0, .slice none 0 0, .slice none 0 0]) ?_ 1 _ rfl; (with_reducible repeat (first | refine blk_drewN ?_ _ | refine blk_drew ?_ | refine blk_alloc ?_ _)); refine blk_put (cs := #[.int .i64 0, .int .i64 0, .int .i64 0, .int .i64 0, .slice none 0 0, .slice none 0 0]) ?_ 0 _ rfl; (with_reducible repeat (first | refine blk_drewN ?_ _ | refine blk_drew ?_ | refine blk_alloc ?_ _)); exact BK295.out) Try.underlying26 rfl (by kernel_rfl)) rfl ?_
     exact ⟨_, _, by first | rfl | (simp [errW_none, errW_some] <;> rfl) | (simp [*, errW_none, errW_some] <;> rfl), by first | exact Kd.R_nil _ _ _ _ _ | exact Kd.N_nil _ _ _ _ _ | exact Kd.V_nil _ _ _ _ _ | exact Kd.Q_nil _ _ _ _ _ | exact Kd.S_nil _ _ _ _ _, by first | exact Kd.R_nil _ _ _ _ _ | exact Kd.N_nil _ _ _ _ _ | exact Kd.V_nil _ _ _ _ _ | exact Kd.Q_nil _ _ _ _ _ | exact Kd.S_nil _ _ _ _ _, by repeat (first | (with_reducible first | exact HB.out | apply below_alloc | apply pw_below_drewN | apply below_drew1 | refine below_set ?_ GE295.out | refine below_set ?_ GE296.out) | exact HB.out)⟩
    replace c33 := Bool.eq_false_iff.mpr c33
    subst c33
    have H1 : (if 0 < (t297.length : Int) then (if 1 < (t297.length : Int) then (if 2 < (t297.length : Int) then (if 3 < (t297.length : Int) then (headgateref18_DecodeReply.l0 kj25 t312 t313 0 0 0 0 0 (rd t297 0) (rd t297 1) (rd t297 2) (rd t297 3) t307 ([] : List (S59))) else (none)) else (none)) else (none)) else (none)) = some (r1, r2, r3, r4, r5, r6, r7) := by rw [if_neg (show ¬ (false = true) by decide)] at H; exact H
    clear H
    have H := H1
    clear H1
    by_cases c37 : 0 < (t297.length : Int)
    ·rw [if_pos c37] at H
     have c37b0 : decide (0 < (t297.length : Int)) = true := decide_eq_true c37
     have c37b1 : decide (0 < t297.length) = true := decide_eq_true (by omega)
     clear c37
     by_cases c38 : 1 < (t297.length : Int)
     ·rw [if_pos c38] at H
      have c38b0 : decide (1 < (t297.length : Int)) = true := decide_eq_true c38
      have c38b1 : decide (1 < t297.length) = true := decide_eq_true (by omega)
      clear c38
      by_cases c39 : 2 < (t297.length : Int)
      ·rw [if_pos c39] at H
       have c39b0 : decide (2 < (t297.length : Int)) = true := decide_eq_true c39
       have c39b1 : decide (2 < t297.length) = true := decide_eq_true (by omega)
       clear c39
       by_cases c40 : 3 < (t297.length : Int)
       ·rw [if_pos c40] at H
        have c40b0 : decide (3 < (t297.length : Int)) = true := decide_eq_true c40
        have c40b1 : decide (3 < t297.length) = true := decide_eq_true (by omega)
        clear c40
        have H' := Aside0.mk H
        clear H
        try go_wp2
        have n0_ := Aside0.mk (Kd.R_drew HO_5.out)
        have n1_ := Aside0.mk (Kd.R_drew HO_8.out)
        have n2_ := Aside0.mk (blk_drew BK295.out)
        have n3_ := Aside0.mk (blk_drew BK296.out)
        have n4_ := Aside0.mk (below_drew1 HB.out)
        clear HO_5
        clear HO_8
        clear BK295
        clear BK296
        clear HB
        have HO_5 := n0_
        have HO_8 := n1_
        have BK295 := n2_
        have BK296 := n3_
        have HB := n4_
        clear n0_ n1_ n2_ n3_ n4_
        have p315 : 0 ≤ (0 : Int) := (by omega)
        have q315 : 0 < (t297.length : Int) := of_decide_eq_true (by first | (with_reducible assumption) | assumption)
        obtain ⟨ad315, e315, hx315_0⟩ := Kd.at_int (Kd.R_reads' HO_5.out).2.2 0 p315 q315
        obtain rfl : ad306 = ad315 := (by injection e315)
        have qi315 : (0 < t297.length) = True := eq_true (by omega)
        (try rw [show ((0 : Int)).toNat = 0 from rfl] at hx315_0)
        (try rw [Addr.add_zero'] at hx315_0)
        replace p315 := eq_true p315
        replace q315 := eq_true q315
        have p316 : 0 ≤ (1 : Int) := (by omega)
        have q316 : 1 < (t297.length : Int) := of_decide_eq_true (by first | (with_reducible assumption) | assumption)
        obtain ⟨ad316, e316, hx316_0⟩ := Kd.at_int (Kd.R_reads' HO_5.out).2.2 1 p316 q316
        obtain rfl : ad306 = ad316 := (by injection e316)
        (try simp only [show (1 : Int).toNat = 1 from rfl, Nat.reduceMul, Nat.reduceEqDiff, Go.Addr.add, ↓reduceIte] at hx316_0)
        have qi316 : (1 < t297.length) = True := eq_true (by omega)
        (try rw [show ((1 : Int)).toNat = 1 from rfl] at hx316_0)
        replace p316 := eq_true p316
        replace q316 := eq_true q316
        have p317 : 0 ≤ (2 : Int) := (by omega)
        have q317 : 2 < (t297.length : Int) := of_decide_eq_true (by first | (with_reducible assumption) | assumption)
        obtain ⟨ad317, e317, hx317_0⟩ := Kd.at_int (Kd.R_reads' HO_5.out).2.2 2 p317 q317
        obtain rfl : ad306 = ad317 := (by injection e317)
        (try simp only [show (2 : Int).toNat = 2 from rfl, Nat.reduceMul, Nat.reduceEqDiff, Go.Addr.add, ↓reduceIte] at hx317_0)
        have qi317 : (2 < t297.length) = True := eq_true (by omega)
        (try rw [show ((2 : Int)).toNat = 2 from rfl] at hx317_0)
        replace p317 := eq_true p317
        replace q317 := eq_true q317
        have p318 : 0 ≤ (3 : Int) := (by omega)
        have q318 : 3 < (t297.length : Int) := of_decide_eq_true (by first | (with_reducible assumption) | assumption)
        obtain ⟨ad318, e318, hx318_0⟩ := Kd.at_int (Kd.R_reads' HO_5.out).2.2 3 p318 q318
        obtain rfl : ad306 = ad318 := (by injection e318)
        (try simp only [show (3 : Int).toNat = 3 from rfl, Nat.reduceMul, Nat.reduceEqDiff, Go.Addr.add, ↓reduceIte] at hx318_0)
        have qi318 : (3 < t297.length) = True := eq_true (by omega)
        (try rw [show ((3 : Int)).toNat = 3 from rfl] at hx318_0)
        replace p318 := eq_true p318
        replace q318 := eq_true q318
        obtain ⟨Ao42, co42, eo42⟩ := Kd.R_slice HO_8.out
        (first | subst eo42 | (injection eo42 with f1_ f2_ f3_; have f4_ := f1_.symm; have f5_ := f3_.symm; clear f1_ f2_ f3_; subst f4_; subst f5_))
        refine start_ (n := 16) (S := fun w' => w'.cell? ad306 = some (.int .i64 (rd t297 0)) ∧ w'.cell? ⟨ad306.block, ad306.off + 1, none⟩ = some (.int .i64 (rd t297 1)) ∧ w'.cell? ⟨ad306.block, ad306.off + 2, none⟩ = some (.int .i64 (rd t297 2)) ∧ w'.cell? ⟨ad306.block, ad306.off + 3, none⟩ = some (.int .i64 (rd t297 3))) (ds := []) #[false, false, false, false, false, false, false, false, false, false, false, false, false, false, false, false] (by kernel_rfl) rfl rfl ⟨hx315_0, hx316_0, hx317_0, hx318_0⟩ (fun hHeld => ?_); refine with_tabW headgateref18_DecodeReply.tab9 headgateref18_DecodeReply.bits9 (fun HT_ HW_ => ?_)
        generalize wc.drew = w41 at HO_5 HO_8 BK295 BK296 HB hx315_0 hx316_0 hx317_0 hx318_0 hHeld ⊢
        refine pure_ (i := 0) (N := some 86) (v := ?_) (a' := ?_) #[true, false, false, false, false, false, false, false, false, false, false, false, false, false, false, false] rfl rfl (any_of HT_.out (by kernel_rfl)) (fun _ _ _ h => h) (Or.inl ⟨by rfl, ?_⟩) ?_ ?_
        rotate_left
        ·intro w'
         go_simp
         with_reducible rfl
        rotate_left
        ·simp only [Act.put, List.setIfInBounds_toArray, List.set_cons_zero, List.set_cons_succ, i64_w, i32_w]
         rfl
        refine pure_ (i := 1) (N := some 87) (v := ?_) (a' := ?_) #[true, true, false, false, false, false, false, false, false, false, false, false, false, false, false, false] rfl rfl (any_of HT_.out (by kernel_rfl)) (fun _ _ _ h => h) (Or.inl ⟨by rfl, ?_⟩) ?_ ?_
        rotate_left
        ·intro w'
         go_simp
         with_reducible rfl
        rotate_left
        ·simp only [Act.put, List.setIfInBounds_toArray, List.set_cons_zero, List.set_cons_succ, i64_w, i32_w]
         rfl
        refine pure_ (i := 3) (N := some 89) (v := ?_) (a' := ?_) #[true, true, false, true, false, false, false, false, false, false, false, false, false, false, false, false] rfl rfl (any_of HT_.out (by kernel_rfl)) (fun _ _ _ h => h) (Or.inl ⟨by rfl, ?_⟩) ?_ ?_
        rotate_left
        ·intro w'
         go_simp
         with_reducible rfl
        rotate_left
        ·simp only [Act.put, List.setIfInBounds_toArray, List.set_cons_zero, List.set_cons_succ, i64_w, i32_w]
         rfl
        refine pure_ (i := 4) (N := some 90) (v := ?_) (a' := ?_) #[true, true, false, true, true, false, false, false, false, false, false, false, false, false, false, false] rfl rfl (any_of HT_.out (by kernel_rfl)) (fun _ _ _ h => h) (Or.inl ⟨by rfl, ?_⟩) ?_ ?_
        rotate_left
        ·intro w'
         go_simp
         with_reducible rfl
        rotate_left
        ·simp only [Act.put, List.setIfInBounds_toArray, List.set_cons_zero, List.set_cons_succ, i64_w, i32_w]
         rfl
        refine pure_ (i := 6) (N := some 92) (v := ?_) (a' := ?_) #[true, true, false, true, true, false, true, false, false, false, false, false, false, false, false, false] rfl rfl (any_of HT_.out (by kernel_rfl)) (fun _ _ _ h => h) (Or.inl ⟨by rfl, ?_⟩) ?_ ?_
        rotate_left
        ·intro w'
         go_simp
         with_reducible rfl
        rotate_left
        ·simp only [Act.put, List.setIfInBounds_toArray, List.set_cons_zero, List.set_cons_succ, i64_w, i32_w]
         rfl
        refine pure_ (i := 7) (N := some 93) (v := ?_) (a' := ?_) #[true, true, false, true, true, false, true, true, false, false, false, false, false, false, false, false] rfl rfl (any_of HT_.out (by kernel_rfl)) (fun _ _ _ h => h) (Or.inl ⟨by rfl, ?_⟩) ?_ ?_
        rotate_left
        ·intro w'
         go_simp
         with_reducible rfl
        rotate_left
        ·simp only [Act.put, List.setIfInBounds_toArray, List.set_cons_zero, List.set_cons_succ, i64_w, i32_w]
         rfl
        refine pure_ (i := 9) (N := some 95) (v := ?_) (a' := ?_) #[true, true, false, true, true, false, true, true, false, true, false, false, false, false, false, false] rfl rfl (any_of HT_.out (by kernel_rfl)) (fun _ _ _ h => h) (Or.inl ⟨by rfl, ?_⟩) ?_ ?_
        rotate_left
        ·intro w'
         go_simp
         with_reducible rfl
        rotate_left
        ·simp only [Act.put, List.setIfInBounds_toArray, List.set_cons_zero, List.set_cons_succ, i64_w, i32_w]
         rfl
        refine pure_ (i := 10) (N := some 96) (v := ?_) (a' := ?_) #[true, true, false, true, true, false, true, true, false, true, true, false, false, false, false, false] rfl rfl (any_of HT_.out (by kernel_rfl)) (fun _ _ _ h => h) (Or.inl ⟨by rfl, ?_⟩) ?_ ?_
        rotate_left
        ·intro w'
         go_simp
         with_reducible rfl
        rotate_left
        ·simp only [Act.put, List.setIfInBounds_toArray, List.set_cons_zero, List.set_cons_succ, i64_w, i32_w]
         rfl
        refine pure_ (i := 12) (N := some 98) (v := ?_) (a' := ?_) #[true, true, false, true, true, false, true, true, false, true, true, false, true, false, false, false] rfl rfl (any_of HT_.out (by kernel_rfl)) (fun _ _ _ h => h) (Or.inl ⟨by rfl, ?_⟩) ?_ ?_
        rotate_left
        ·intro w'
         go_simp
         with_reducible rfl
        rotate_left
        ·simp only [Act.put, List.setIfInBounds_toArray, List.set_cons_zero, List.set_cons_succ, i64_w, i32_w]
         rfl
        refine take_ (i := 2) (N := some 88) (v := ?_) (a' := ?_) #[true, true, true, true, true, false, true, true, false, true, true, false, true, false, false, false] rfl rfl (take_ofW HT_.out HW_.out (by kernel_rfl)) (fun _ _ _ h => h) (Or.inl ⟨by rfl, ?_⟩) hHeld ?_ ?_
        rotate_left
        ·rintro w' ⟨s0, s1, s2, s3⟩
         go_simp
         with_reducible rfl
        rotate_left
        ·simp only [Act.put, List.setIfInBounds_toArray, List.set_cons_zero, List.set_cons_succ, i64_w, i32_w]
         rfl
        refine take_ (i := 5) (N := some 91) (v := ?_) (a' := ?_) #[true, true, true, true, true, true, true, true, false, true, true, false, true, false, false, false] rfl rfl (take_ofW HT_.out HW_.out (by kernel_rfl)) (fun _ _ _ h => h) (Or.inl ⟨by rfl, ?_⟩) hHeld ?_ ?_
        rotate_left
        ·rintro w' ⟨s0, s1, s2, s3⟩
         go_simp
         with_reducible rfl
        rotate_left
        ·simp only [Act.put, List.setIfInBounds_toArray, List.set_cons_zero, List.set_cons_succ, i64_w, i32_w]
         rfl
        refine take_ (i := 8) (N := some 94) (v := ?_) (a' := ?_) #[true, true, true, true, true, true, true, true, true, true, true, false, true, false, false, false] rfl rfl (take_ofW HT_.out HW_.out (by kernel_rfl)) (fun _ _ _ h => h) (Or.inl ⟨by rfl, ?_⟩) hHeld ?_ ?_
        rotate_left
        ·rintro w' ⟨s0, s1, s2, s3⟩
         go_simp
         with_reducible rfl
        rotate_left
        ·simp only [Act.put, List.setIfInBounds_toArray, List.set_cons_zero, List.set_cons_succ, i64_w, i32_w]
         rfl
        refine take_ (i := 11) (N := some 97) (v := ?_) (a' := ?_) #[true, true, true, true, true, true, true, true, true, true, true, true, true, false, false, false] rfl rfl (take_ofW HT_.out HW_.out (by kernel_rfl)) (fun _ _ _ h => h) (Or.inl ⟨by rfl, ?_⟩) hHeld ?_ ?_
        rotate_left
        ·rintro w' ⟨s0, s1, s2, s3⟩
         go_simp
         with_reducible rfl
        rotate_left
        ·simp only [Act.put, List.setIfInBounds_toArray, List.set_cons_zero, List.set_cons_succ, i64_w, i32_w]
         rfl
        refine pure_ (i := 13) (N := some 99) (v := ?_) (a' := ?_) #[true, true, true, true, true, true, true, true, true, true, true, true, true, true, false, false] rfl rfl (any_of HT_.out (by kernel_rfl)) (fun _ _ _ h => h) (Or.inl ⟨by rfl, ?_⟩) ?_ ?_
        rotate_left
        ·intro w'
         go_simp
         with_reducible rfl
        rotate_left
        ·simp only [Act.put, List.setIfInBounds_toArray, List.set_cons_zero, List.set_cons_succ, i64_w, i32_w]
         rfl
        refine one_ (i := 14) (N := some 14) #[true, true, true, true, true, true, true, true, true, true, true, true, true, true, true, false] rfl rfl (one_of HT_.out (by kernel_rfl)) (by decide) (fun K hK => ?_)
        refine box_step ?hg (N := 14) ?hd (cs := #[.int .i64 0, .int .i64 0, .int .i64 0, .int .i64 0, .slice none 0 0, .slice none 0 0]) (t := 26) ?hr ?_; (case hd => rfl); (case hg => rfl); (case hr => first | (go_simp; done) | (go_simp; rfl))
        intro gb319 hg w43 hbox hb
        have HS0_ := (hb.cell (World.block_lt_of_cell? _ _ (hHeld.1))).trans (hHeld.1)
        have HS1_ := (hb.cell (World.block_lt_of_cell? _ _ (hHeld.2.1))).trans (hHeld.2.1)
        have HS2_ := (hb.cell (World.block_lt_of_cell? _ _ (hHeld.2.2.1))).trans (hHeld.2.2.1)
        have HS3_ := (hb.cell (World.block_lt_of_cell? _ _ (hHeld.2.2.2))).trans (hHeld.2.2.2)
        have HNE0_319 : (ad306 : Addr).block ≠ gb319 := (by rw [hg]; exact Nat.ne_of_lt (World.block_lt_of_cell? _ _ (hHeld.1)))
        have HNE1_319 : (⟨ad306.block, ad306.off + 1, none⟩ : Addr).block ≠ gb319 := (by rw [hg]; exact Nat.ne_of_lt (World.block_lt_of_cell? _ _ (hHeld.2.1)))
        have HNE2_319 : (⟨ad306.block, ad306.off + 2, none⟩ : Addr).block ≠ gb319 := (by rw [hg]; exact Nat.ne_of_lt (World.block_lt_of_cell? _ _ (hHeld.2.2.1)))
        have HNE3_319 : (⟨ad306.block, ad306.off + 3, none⟩ : Addr).block ≠ gb319 := (by rw [hg]; exact Nat.ne_of_lt (World.block_lt_of_cell? _ _ (hHeld.2.2.2)))
        have n0_ := Aside0.mk (Kd.R_below (Zz.r HO_5.out) hb)
        have n1_ := Aside0.mk (Kd.R_below (Zz.r HO_8.out) hb)
        have n2_ := Aside0.mk (Zz.bb BK295.out hb)
        have n3_ := Aside0.mk (Zz.bb BK296.out hb)
        have n4_ := Aside0.mk (below_step (Zz.i HB.out) hb)
        have n5_ := Aside0.mk (hbox)
        have n6_ := Aside0.mk (Zz.ge hg HB.out)
        have n7_ := Aside0.mk (Zz.ge hg HB.out)
        have n8_ := Aside0.mk (Zz.nl hg BK295.out)
        have n9_ := Aside0.mk (Zz.ng hg BK295.out)
        have n10_ := Aside0.mk (Zz.nl hg BK296.out)
        have n11_ := Aside0.mk (Zz.ng hg BK296.out)
        clear HO_5
        clear HO_8
        clear BK295
        clear BK296
        clear HB
        have HO_5 := n0_
        have HO_8 := n1_
        have BK295 := n2_
        have BK296 := n3_
        have HB := n4_
        have BK319 := n5_
        have GW319 := n6_
        have GE319 := n7_
        have NB295_319 := n8_
        have NB319_295 := n9_
        have NB296_319 := n10_
        have NB319_296 := n11_
        clear n0_ n1_ n2_ n3_ n4_ n5_ n6_ n7_ n8_ n9_ n10_ n11_
        clear hb hbox hg
        refine hK.out _ _ ⟨HS0_, HS1_, HS2_, HS3_⟩ (fun hHeld => ?_)
        clear hK K
        refine norm_ (a' := ?_) ?_ ?_
        rotate_left
        ·show Act.put _ (some 14) _ = _
         simp only [Act.put, List.setIfInBounds_toArray, List.set_cons_zero, List.set_cons_succ, i64_w, i32_w]
         rfl
        refine one_ (i := 15) (N := none) #[true, true, true, true, true, true, true, true, true, true, true, true, true, true, true, true] rfl rfl (one_of HT_.out (by kernel_rfl)) (by decide) (fun K hK => ?_)
        have hs44 : w43.cell? ⟨gb319, 0, none⟩ = some (.int .i64 0) := (blk_cell BK319.out 0).trans rfl
        have hfs44 := blk_frozen BK319.out 0
        have hns44_0 := NB295_319.out
        have hns44_1 := NB296_319.out
        have hms44_0 := NB319_295.out
        have hms44_1 := NB319_296.out
        have hs45 : w43.cell? ⟨gb319, 1, none⟩ = some (.int .i64 0) := (blk_cell BK319.out 1).trans rfl
        have hfs45 := blk_frozen BK319.out 1
        have hns45_0 := NB295_319.out
        have hns45_1 := NB296_319.out
        have hms45_0 := NB319_295.out
        have hms45_1 := NB319_296.out
        have hs46 : w43.cell? ⟨gb319, 2, none⟩ = some (.int .i64 0) := (blk_cell BK319.out 2).trans rfl
        have hfs46 := blk_frozen BK319.out 2
        have hns46_0 := NB295_319.out
        have hns46_1 := NB296_319.out
        have hms46_0 := NB319_295.out
        have hms46_1 := NB319_296.out
        have hs47 : w43.cell? ⟨gb319, 3, none⟩ = some (.int .i64 0) := (blk_cell BK319.out 3).trans rfl
        have hfs47 := blk_frozen BK319.out 3
        have hns47_0 := NB295_319.out
        have hns47_1 := NB296_319.out
        have hms47_0 := NB319_295.out
        have hms47_1 := NB319_296.out
        have hs48 : w43.cell? ⟨gb319, 4, none⟩ = some (.slice none 0 0) := (blk_cell BK319.out 4).trans rfl
        have hfs48 := blk_frozen BK319.out 4
        have hns48_0 := NB295_319.out
        have hns48_1 := NB296_319.out
        have hms48_0 := NB319_295.out
        have hms48_1 := NB319_296.out
        have hs49 : w43.cell? ⟨gb319, 5, none⟩ = some (.slice none 0 0) := (blk_cell BK319.out 5).trans rfl
        have hfs49 := blk_frozen BK319.out 5
        have hns49_0 := NB295_319.out
        have hns49_1 := NB296_319.out
        have hms49_0 := NB319_295.out
        have hms49_1 := NB319_296.out
        refine skip_ (w1 := ?_) (by rfl) rfl ?_ ?_
        rotate_left
        ·go_simp
         rfl
        refine hK.out _ _ ⟨(headgateref18_DecodeReply.far6 (g := gb319) (by first | exact HNE0_319 | exact Kd.own_blk (Kd.R_ne HO_5.out BK319.out (by decide)) | (rw [add_block]; exact Kd.own_blk (Kd.R_ne HO_5.out BK319.out (by decide))) | (show (Addr.add _ _).block ≠ _; rw [add_block]; exact Kd.own_blk (Kd.R_ne HO_5.out BK319.out (by decide))) | (dsimp only; exact Kd.own_blk (Kd.R_ne HO_5.out BK319.out (by decide)))) (hHeld.1)), (headgateref18_DecodeReply.far6 (g := gb319) (by first | exact HNE1_319 | exact Kd.own_blk (Kd.R_ne HO_5.out BK319.out (by decide)) | (rw [add_block]; exact Kd.own_blk (Kd.R_ne HO_5.out BK319.out (by decide))) | (show (Addr.add _ _).block ≠ _; rw [add_block]; exact Kd.own_blk (Kd.R_ne HO_5.out BK319.out (by decide))) | (dsimp only; exact Kd.own_blk (Kd.R_ne HO_5.out BK319.out (by decide)))) (hHeld.2.1)), (headgateref18_DecodeReply.far6 (g := gb319) (by first | exact HNE2_319 | exact Kd.own_blk (Kd.R_ne HO_5.out BK319.out (by decide)) | (rw [add_block]; exact Kd.own_blk (Kd.R_ne HO_5.out BK319.out (by decide))) | (show (Addr.add _ _).block ≠ _; rw [add_block]; exact Kd.own_blk (Kd.R_ne HO_5.out BK319.out (by decide))) | (dsimp only; exact Kd.own_blk (Kd.R_ne HO_5.out BK319.out (by decide)))) (hHeld.2.2.1)), (headgateref18_DecodeReply.far6 (g := gb319) (by first | exact HNE3_319 | exact Kd.own_blk (Kd.R_ne HO_5.out BK319.out (by decide)) | (rw [add_block]; exact Kd.own_blk (Kd.R_ne HO_5.out BK319.out (by decide))) | (show (Addr.add _ _).block ≠ _; rw [add_block]; exact Kd.own_blk (Kd.R_ne HO_5.out BK319.out (by decide))) | (dsimp only; exact Kd.own_blk (Kd.R_ne HO_5.out BK319.out (by decide)))) (hHeld.2.2.2))⟩ (fun hHeld => ?_)
        clear hK K
        refine done_ (done_of HT_.out (by kernel_rfl)) ?_
        try go_wp2
        go_loopg [12, 15] kj25 (fun kq v12 v15 w' => ∃ (x12_3 : ByteArray) (x15_3 : Int) (x296000_3 : Int) (x296001_3 : Int) (x296002_3 : Int) (x296003_3 : Int) (x320005_3 : List (S59)) (u320005 : Value), v12 = .string x12_3 ∧ v15 = .int .i64 x15_3 ∧ Aside0 (headgateref18_DecodeReply.l0 kq t312 x12_3 x15_3 0 0 0 0 (rd t297 0) (rd t297 1) (rd t297 2) (rd t297 3) t307 x320005_3 = some (r1, r2, r3, r4, r5, r6, r7)) ∧ Aside0 (kq ≤ kj25) ∧ Aside0 (Kd.R (Kd.int .i64) 3 w' w.heap.size (fun _ => True) (.slice Ao42 t307.length co42) t307) ∧ Aside0 (Kd.R k59 59 w' w.heap.size (fun _ => True) u320005 x320005_3) ∧ Aside0 (w'.heap[gb295]? = some (.cells #[.int .i64 x296000_3, .int .i64 x296001_3, .int .i64 x296002_3, .int .i64 x296003_3, (.slice none 0 0), (.slice none 0 0)] 26 (0, 0))) ∧ Aside0 (w'.heap[gb296]? = some (.cells #[.int .i64 0, .int .i64 0, .int .i64 0, .int .i64 0, (.slice none 0 0), (.slice none 0 0)] 26 (0, 0))) ∧ Aside0 (w'.heap[gb319]? = some (.cells #[.int .i64 (rd t297 0), .int .i64 (rd t297 1), .int .i64 (rd t297 2), .int .i64 (rd t297 3), (.slice Ao42 t307.length co42), u320005] 26 (0, 0))) ∧ Aside0 (Below w.heap.size w w'))
        case atStart => exact ⟨(t313), (0), (0), (0), (0), (0), (([] : List (S59))), (.slice none 0 0), Zz.q, Zz.q, H', ⟨Nat.le_refl _⟩, ⟨by (with_reducible repeat (first | apply Kd.R_alloc | apply Kd.R_drewN | apply Kd.R_drew)); exact Kd.R_mono (Kd.R_far (p := ⟨gb319, 5, none⟩) (Kd.R_far (p := ⟨gb319, 4, none⟩) (Kd.R_far (p := ⟨gb319, 3, none⟩) (Kd.R_far (p := ⟨gb319, 2, none⟩) (Kd.R_far (p := ⟨gb319, 1, none⟩) (Kd.R_far (p := ⟨gb319, 0, none⟩) (Kd.R_types HO_8.out BK319.out (by decide)) (fun _ hk => hk.2) (.int .i64 (rd t297 0))) (fun _ hk => hk.2) (.int .i64 (rd t297 1))) (fun _ hk => hk.2) (.int .i64 (rd t297 2))) (fun _ hk => hk.2) (.int .i64 (rd t297 3))) (fun _ hk => hk.2) (.slice Ao42 t307.length co42)) (fun _ hk => hk.2) (.slice none 0 0)) (fun _ hk => trivial)⟩, ⟨by first | exact Kd.R_nil _ _ _ _ _ | exact Kd.N_nil _ _ _ _ _ | exact Kd.V_nil _ _ _ _ _ | exact Kd.Q_nil _ _ _ _ _ | exact Kd.S_nil _ _ _ _ _⟩, ⟨by (with_reducible repeat (first | refine blk_drewN ?_ _ | refine blk_drew ?_ | refine blk_alloc ?_ _)); refine blk_far ?_ NB295_319.out _; (with_reducible repeat (first | refine blk_drewN ?_ _ | refine blk_drew ?_ | refine blk_alloc ?_ _)); refine blk_far ?_ NB295_319.out _; (with_reducible repeat (first | refine blk_drewN ?_ _ | refine blk_drew ?_ | refine blk_alloc ?_ _)); refine blk_far ?_ NB295_319.out _; (with_reducible repeat (first | refine blk_drewN ?_ _ | refine blk_drew ?_ | refine blk_alloc ?_ _)); refine blk_far ?_ NB295_319.out _; (with_reducible repeat (first | refine blk_drewN ?_ _ | refine blk_drew ?_ | refine blk_alloc ?_ _)); refine blk_far ?_ NB295_319.out _; (with_reducible repeat (first | refine blk_drewN ?_ _ | refine blk_drew ?_ | refine blk_alloc ?_ _)); refine blk_far ?_ NB295_319.out _; (with_reducible repeat (first | refine blk_drewN ?_ _ | refine blk_drew ?_ | refine blk_alloc ?_ _)); exact BK295.out⟩, ⟨by (with_reducible repeat (first | refine blk_drewN ?_ _ | refine blk_drew ?_ | refine blk_alloc ?_ _)); refine blk_far ?_ NB296_319.out _; (with_reducible repeat (first | refine blk_drewN ?_ _ | refine blk_drew ?_ | refine blk_alloc ?_ _)); refine blk_far ?_ NB296_319.out _; (with_reducible repeat (first | refine blk_drewN ?_ _ | refine blk_drew ?_ | refine blk_alloc ?_ _)); refine blk_far ?_ NB296_319.out _; (with_reducible repeat (first | refine blk_drewN ?_ _ | refine blk_drew ?_ | refine blk_alloc ?_ _)); refine blk_far ?_ NB296_319.out _; (with_reducible repeat (first | refine blk_drewN ?_ _ | refine blk_drew ?_ | refine blk_alloc ?_ _)); refine blk_far ?_ NB296_319.out _; (with_reducible repeat (first | refine blk_drewN ?_ _ | refine blk_drew ?_ | refine blk_alloc ?_ _)); refine blk_far ?_ NB296_319.out _; (with_reducible repeat (first | refine blk_drewN ?_ _ | refine blk_drew ?_ | refine blk_alloc ?_ _)); exact BK296.out⟩, ⟨by (with_reducible repeat (first | refine blk_drewN ?_ _ | refine blk_drew ?_ | refine blk_alloc ?_ _)); refine blk_put (cs := #[.int .i64 (rd t297 0), .int .i64 (rd t297 1), .int .i64 (rd t297 2), .int .i64 (rd t297 3), .slice Ao42 t307.length co42, .slice none 0 0]) ?_ 5 _ rfl; (with_reducible repeat (first | refine blk_drewN ?_ _ | refine blk_drew ?_ | refine blk_alloc ?_ _)); refine blk_put (cs := #[.int .i64 (rd t297 0), .int .i64 (rd t297 1), .int .i64 (rd t297 2), .int .i64 (rd t297 3), .slice none 0 0, .slice none 0 0]) ?_ 4 _ rfl; (with_reducible repeat (first | refine blk_drewN ?_ _ | refine blk_drew ?_ | refine blk_alloc ?_ _)); refine blk_put (cs := #[.int .i64 (rd t297 0), .int .i64 (rd t297 1), .int .i64 (rd t297 2), .int .i64 0, .slice none 0 0, .slice none 0 0]) ?_ 3 _ rfl; (with_reducible repeat (first | refine blk_drewN ?_ _ | refine blk_drew ?_ | refine blk_alloc ?_ _)); refine blk_put (cs := #[.int .i64 (rd t297 0), .int .i64 (rd t297 1), .int .i64 0, .int .i64 0, .slice none 0 0, .slice none 0 0]) ?_ 2 _ rfl; (with_reducible repeat (first | refine blk_drewN ?_ _ | refine blk_drew ?_ | refine blk_alloc ?_ _)); refine blk_put (cs := #[.int .i64 (rd t297 0), .int .i64 0, .int .i64 0, .int .i64 0, .slice none 0 0, .slice none 0 0]) ?_ 1 _ rfl; (with_reducible repeat (first | refine blk_drewN ?_ _ | refine blk_drew ?_ | refine blk_alloc ?_ _)); refine blk_put (cs := #[.int .i64 0, .int .i64 0, .int .i64 0, .int .i64 0, .slice none 0 0, .slice none 0 0]) ?_ 0 _ rfl; (with_reducible repeat (first | refine blk_drewN ?_ _ | refine blk_drew ?_ | refine blk_alloc ?_ _)); exact BK319.out⟩, ⟨by repeat (first | (with_reducible first | exact HB.out | apply below_alloc | apply pw_below_drewN | apply below_drew1 | refine below_set ?_ GE295.out | refine below_set ?_ GE296.out | refine below_set ?_ GE319.out) | exact HB.out)⟩⟩
        case round =>
         clear H'
         (try clear c1);(try clear c2);(try clear p2);(try clear c3);(try clear p3);(try clear q3);(try clear hx3);(try clear qi3);(try clear c4);(try clear c6);(try clear c9);(try clear c9b0);(try clear c9b1);(try clear c10);(try clear c10b0);(try clear c10b1);(try clear c11);(try clear c11b0);(try clear c13);(try clear c13b0);(try clear c15);(try clear c15b0);(try clear c15b1);(try clear c16);(try clear c16b0);(try clear c19);(try clear c20);(try clear c23);(try clear c23b0);(try clear c23b1);(try clear c30);(try clear c30b0);(try clear c30b1);(try clear p30);(try clear q30);(try clear hx30);(try clear qi30);(try clear c31);(try clear c31b0);(try clear c31b1);(try clear p31);(try clear q31);(try clear hx31);(try clear qi31);(try clear c32);(try clear c32b0);(try clear c33);(try clear c34);(try clear c35);(try clear c37);(try clear c37b0);(try clear c37b1);(try clear c38);(try clear c38b0);(try clear c38b1);(try clear c39);(try clear c39b0);(try clear c39b1);(try clear c40);(try clear c40b0);(try clear c40b1);(try clear hcz21);(try clear hcz22);(try clear hcz35);(try clear hcz36);(try clear hcz7);(try clear hfz21);(try clear hfz22);(try clear hfz35);(try clear hfz36);(try clear hfz7);(try clear hx302_0);(try clear hx303_0);(try clear hx304_0);(try clear hx305_0);(try clear hx306_0);(try clear hx315_0);(try clear hx316_0);(try clear hx317_0);(try clear hx318_0);(try clear p302);(try clear p303);(try clear p304);(try clear p305);(try clear p306);(try clear p315);(try clear p316);(try clear p317);(try clear p318);(try clear q302);(try clear q303);(try clear q304);(try clear q305);(try clear q306);(try clear q315);(try clear q316);(try clear q317);(try clear q318)
         obtain ⟨x12_3, x15_3, x296000_3, x296001_3, x296002_3, x296003_3, x320005_3, u320005, rfl, rfl, HA, HK3, HO_320004, HO_320005, BK295, BK296, BK319, HB⟩ := hrel
         cases gk with
         | zero => exact absurd HA.out (by simp [headgateref18_DecodeReply.l0])
         | succ k3 =>
          have H := HA.out
          clear HA
          simp only [headgateref18_DecodeReply.l0] at H
          by_cases c50 : x15_3 < t312
          ·rw [if_pos c50] at H
           have c50b0 : decide (x15_3 < t312) = true := decide_eq_true c50
           clear c50
           replace H := Option.bind_eq_some_iff.mp H
           obtain ⟨⟨t321, t322, t323⟩, A510, H⟩ := H
           replace H : ((headgateref06_TakeRecord.f k3 t322).bind fun bt324 => (if t323 = 0 then (if bt324.2.2.2.2 = 0 then (if x320005_3.length < 3518437208883 then (headgateref18_DecodeReply.l0 k3 t312 bt324.2.2.2.1 (wrap64 (x15_3 + 1)) 0 0 0 0 (rd t297 0) (rd t297 1) (rd t297 2) (rd t297 3) t307 (x320005_3 ++ [(⟨t321, (⟨bt324.1, bt324.2.1, bt324.2.2.1⟩ : S57)⟩ : S59)])) else (none)) else (some (0, 0, 0, 0, ([] : List Int), ([] : List (S59)), 2))) else (some (0, 0, 0, 0, ([] : List Int), ([] : List (S59)), 2)))) = some (r1, r2, r3, r4, r5, r6, r7) := H
           have A51 := Aside0.mk A510
           clear A510
           replace H := Option.bind_eq_some_iff.mp H
           obtain ⟨⟨t324, t325, t326, t327, t328⟩, A520, H⟩ := H
           replace H : (if t323 = 0 then (if t328 = 0 then (if x320005_3.length < 3518437208883 then (headgateref18_DecodeReply.l0 k3 t312 t327 (wrap64 (x15_3 + 1)) 0 0 0 0 (rd t297 0) (rd t297 1) (rd t297 2) (rd t297 3) t307 (x320005_3 ++ [(⟨t321, (⟨t324, t325, t326⟩ : S57)⟩ : S59)])) else (none)) else (some (0, 0, 0, 0, ([] : List Int), ([] : List (S59)), 2))) else (some (0, 0, 0, 0, ([] : List Int), ([] : List (S59)), 2))) = some (r1, r2, r3, r4, r5, r6, r7) := H
           have A52 := Aside0.mk A520
           clear A520
           by_cases c53 : t323 = 0
           ·rw [if_pos c53] at H
            have c53b0 : (t323 == 0) = true := beq_iff_eq.mpr c53
            have c53b1 : (t323 != 0) = false := bne_eq_false_iff_eq.mpr c53
            clear c53
            by_cases c54 : t328 = 0
            ·rw [if_pos c54] at H
             have c54b0 : (t328 == 0) = true := beq_iff_eq.mpr c54
             have c54b1 : (t328 != 0) = false := bne_eq_false_iff_eq.mpr c54
             clear c54
             by_cases c55 : x320005_3.length < 3518437208883
             ·rw [if_pos c55] at H
              have LMc55 := Aside0.mk c55
              clear c55
              obtain ⟨y330, hy330⟩ : ∃ y_ : List (S59), y_ = (x320005_3 ++ [(⟨t321, (⟨t324, t325, t326⟩ : S57)⟩ : S59)]) := ⟨_, rfl⟩
              replace H : (headgateref18_DecodeReply.l0 k3 t312 t327 (wrap64 (x15_3 + 1)) 0 0 0 0 (rd t297 0) (rd t297 1) (rd t297 2) (rd t297 3) t307 y330) = some (r1, r2, r3, r4, r5, r6, r7) := by first | (rw [hy330]; with_reducible exact H) | (have H2_ := (Option.bind_some _ _).symm.trans H; rw [hy330]; with_reducible exact H2_) | (have H2_ := (Option.bind_some _ _).symm.trans H; with_reducible exact H2_) | with_reducible exact H | (rw [hy330]; exact H) | exact H
              have Ny330 := Aside0.mk hy330
              clear hy330
              have H' := Aside0.mk H
              clear H
              go_wp2_with (first | ((with_reducible refine gate_callee (f := 35) rfl ?_); refine goesL_ (some 107) rfl rfl Try.func35 (by kernel_rfl) rfl #[.string x12_3] rfl Zz.g ?_; (with_reducible refine (headgateref01_Take.calls k3 x12_3 t321 t322 t323 _ A51.out).mono ?_); rintro e w56 ⟨rfl, hb⟩; refine ⟨_, rfl, ?_⟩; replace HO_320004 := Aside0.mk (Kd.R_below (Zz.r HO_320004.out) hb); replace HO_320005 := Aside0.mk (Kd.R_below (Zz.r HO_320005.out) hb); replace BK295 := Aside0.mk (Zz.bb BK295.out hb); replace BK296 := Aside0.mk (Zz.bb BK296.out hb); replace BK319 := Aside0.mk (Zz.bb BK319.out hb); replace HB := Aside0.mk (below_step (Zz.i HB.out) hb); (try clear hb)) | ((with_reducible refine gate_callee (f := 36) rfl ?_); refine goesL_ (some 113) rfl rfl Try.func36 (by kernel_rfl) rfl #[.string t322] rfl Zz.g ?_; (with_reducible refine (headgateref06_TakeRecord.calls k3 t322 t324 t325 t326 t327 t328 _ A52.out).mono ?_); rintro e w57 ⟨rfl, hb⟩; refine ⟨_, rfl, ?_⟩; replace HO_320004 := Aside0.mk (Kd.R_below (Zz.r HO_320004.out) hb); replace HO_320005 := Aside0.mk (Kd.R_below (Zz.r HO_320005.out) hb); replace BK295 := Aside0.mk (Zz.bb BK295.out hb); replace BK296 := Aside0.mk (Zz.bb BK296.out hb); replace BK319 := Aside0.mk (Zz.bb BK319.out hb); replace HB := Aside0.mk (below_step (Zz.i HB.out) hb); (try clear hb)) | ((with_reducible refine gate_dst (N := 19) rfl ?_); refine box_event ?hg (N := 19) ?hd (cs := #[.int .i64 0, .int .i64 0, .string (⟨#[]⟩ : ByteArray)]) (t := 57) ?hr ?_; (case hd => rfl); (case hg => rfl); (case hr => first | (go_simp; done) | (go_simp; rfl)); intro gb329 hg w58 hbox hb; replace HO_320004 := Aside0.mk (Kd.R_below (Zz.r HO_320004.out) hb); replace HO_320005 := Aside0.mk (Kd.R_below (Zz.r HO_320005.out) hb); have BK329 := Aside0.mk (hbox); have GW329 := Aside0.mk (Zz.ge hg HB.out); have GE329 := Aside0.mk (Zz.ge hg HB.out); replace HB := Aside0.mk (below_step (Zz.i HB.out) hb); have NB295_329 := Aside0.mk (Zz.nl hg BK295.out); have NB329_295 := Aside0.mk (Zz.ng hg BK295.out); replace BK295 := Aside0.mk (Zz.bb BK295.out hb); have NB296_329 := Aside0.mk (Zz.nl hg BK296.out); have NB329_296 := Aside0.mk (Zz.ng hg BK296.out); replace BK296 := Aside0.mk (Zz.bb BK296.out hb); have NB319_329 := Aside0.mk (Zz.nl hg BK319.out); have NB329_319 := Aside0.mk (Zz.ng hg BK319.out); replace BK319 := Aside0.mk (Zz.bb BK319.out hb); clear hb hbox hg; have hnb59 := NB329_295.out; have hnc59 := NB295_329.out; have hnb60 := NB329_296.out; have hnc60 := NB296_329.out; have hnb61 := NB329_319.out; have hnc61 := NB319_329.out; have hcz62 := Zz.c3 BK329.out; have hfz62 := blk_frozen BK329.out; have hnb63 := NB319_295.out; have hnc63 := NB295_319.out; have hnb64 := NB319_296.out; have hnc64 := NB296_319.out; have hcz65 := Zz.c6 BK319.out; have hfz65 := blk_frozen BK319.out) | ((with_reducible refine gate_builtin (b := .append) (xs := #[.tmp 125, .tmp 129]) rfl ?_); at_builtin; refine Kd.R_append k59 (w0 := w) w.heap.size rfl (.tmp 125) (.tmp 129) 24 59 (.agg #[(.int .i64 0), (.int .i64 0), (.int .i64 0), (.string ⟨#[]⟩)]) 40 rfl Try.underlying24 info59 rfl (by decide) (by omega) u320005 x320005_3 (⟨t321, (⟨t324, t325, t326⟩ : S57)⟩ : S59) [.int .i64 t321, .int .i64 t324, .int .i64 t325, .string t326] (fun _ => True) (fun _ => False) rfl (by first | (go_simp; done) | (go_simp; rfl)) ?aP (fun _ hk => hk.elim) ?aF ?aO ?aB ?aS ?aL ?_; (case aP => exact k59_mkM _ _ _ (⟨t321, (⟨t324, t325, t326⟩ : S57)⟩ : S59)); (case aB => exact (Zz.i HB.out)); (case aF => exact (fun _ _ => trivial)); (case aO => exact (by (with_reducible repeat (first | apply Kd.R_alloc | apply Kd.R_drewN | apply Kd.R_drew)); exact Kd.R_mono (Kd.R_far (p := ⟨gb329, 2, none⟩) (Kd.R_far (p := ⟨gb329, 1, none⟩) (Kd.R_far (p := ⟨gb329, 0, none⟩) (Kd.R_types HO_320005.out BK329.out (by decide)) (fun _ hk => hk.2) (.int .i64 t324)) (fun _ hk => hk.2) (.int .i64 t325)) (fun _ hk => hk.2) (.string t326)) (fun _ hk => trivial))); (case aS => exact (below_size (Zz.i HB.out))); (case aL => have := LMc55.out; omega); intro v331 w66 ho hb hg hat; rw [← Ny330.out] at ho; have n0_ := Aside0.mk (Kd.R_over' (by (with_reducible repeat (first | apply Kd.R_alloc | apply Kd.R_drewN | apply Kd.R_drew)); exact (Kd.R_mono (Kd.R_far (p := ⟨gb329, 2, none⟩) (Kd.R_far (p := ⟨gb329, 1, none⟩) (Kd.R_far (p := ⟨gb329, 0, none⟩) (Kd.R_types HO_320004.out BK329.out (by decide)) (fun _ hk => hk.2) (.int .i64 t324)) (fun _ hk => hk.2) (.int .i64 t325)) (fun _ hk => hk.2) (.string t326)) (fun _ h_ => h_.1))) (Kd.R_typed (by (with_reducible repeat (first | apply Kd.R_alloc | apply Kd.R_drewN | apply Kd.R_drew)); exact (Kd.R_mono (Kd.R_far (p := ⟨gb329, 2, none⟩) (Kd.R_far (p := ⟨gb329, 1, none⟩) (Kd.R_far (p := ⟨gb329, 0, none⟩) (Kd.R_types HO_320005.out BK329.out (by decide)) (fun _ hk => hk.2) (.int .i64 t324)) (fun _ hk => hk.2) (.int .i64 t325)) (fun _ hk => hk.2) (.string t326)) (fun _ h_ => h_.1)))) (by decide) hg); have n1_ := Aside0.mk (blk_grown (g := gb295) (o := .cells #[.int .i64 x296000_3, .int .i64 x296001_3, .int .i64 x296002_3, .int .i64 x296003_3, .slice none 0 0, .slice none 0 0] 26 (0, 0)) (by (with_reducible repeat (first | refine blk_drewN ?_ _ | refine blk_drew ?_ | refine blk_alloc ?_ _)); refine blk_far ?_ NB295_329.out _; (with_reducible repeat (first | refine blk_drewN ?_ _ | refine blk_drew ?_ | refine blk_alloc ?_ _)); refine blk_far ?_ NB295_329.out _; (with_reducible repeat (first | refine blk_drewN ?_ _ | refine blk_drew ?_ | refine blk_alloc ?_ _)); refine blk_far ?_ NB295_329.out _; (with_reducible repeat (first | refine blk_drewN ?_ _ | refine blk_drew ?_ | refine blk_alloc ?_ _)); exact BK295.out) hg (Kd.R_ne HO_320005.out BK295.out (by decide))); have n2_ := Aside0.mk (blk_grown (g := gb296) (o := .cells #[.int .i64 0, .int .i64 0, .int .i64 0, .int .i64 0, .slice none 0 0, .slice none 0 0] 26 (0, 0)) (by (with_reducible repeat (first | refine blk_drewN ?_ _ | refine blk_drew ?_ | refine blk_alloc ?_ _)); refine blk_far ?_ NB296_329.out _; (with_reducible repeat (first | refine blk_drewN ?_ _ | refine blk_drew ?_ | refine blk_alloc ?_ _)); refine blk_far ?_ NB296_329.out _; (with_reducible repeat (first | refine blk_drewN ?_ _ | refine blk_drew ?_ | refine blk_alloc ?_ _)); refine blk_far ?_ NB296_329.out _; (with_reducible repeat (first | refine blk_drewN ?_ _ | refine blk_drew ?_ | refine blk_alloc ?_ _)); exact BK296.out) hg (Kd.R_ne HO_320005.out BK296.out (by decide))); have n3_ := Aside0.mk (blk_grown (g := gb319) (o := .cells #[.int .i64 (rd t297 0), .int .i64 (rd t297 1), .int .i64 (rd t297 2), .int .i64 (rd t297 3), .slice Ao42 t307.length co42, u320005] 26 (0, 0)) (by (with_reducible repeat (first | refine blk_drewN ?_ _ | refine blk_drew ?_ | refine blk_alloc ?_ _)); refine blk_far ?_ NB319_329.out _; (with_reducible repeat (first | refine blk_drewN ?_ _ | refine blk_drew ?_ | refine blk_alloc ?_ _)); refine blk_far ?_ NB319_329.out _; (with_reducible repeat (first | refine blk_drewN ?_ _ | refine blk_drew ?_ | refine blk_alloc ?_ _)); refine blk_far ?_ NB319_329.out _; (with_reducible repeat (first | refine blk_drewN ?_ _ | refine blk_drew ?_ | refine blk_alloc ?_ _)); exact BK319.out) hg (Kd.R_ne HO_320005.out BK319.out (by decide))); have n4_ := Aside0.mk (blk_grown (g := gb329) (o := .cells #[.int .i64 t324, .int .i64 t325, .string t326] 57 (0, 0)) (by (with_reducible repeat (first | refine blk_drewN ?_ _ | refine blk_drew ?_ | refine blk_alloc ?_ _)); refine blk_put (cs := #[.int .i64 t324, .int .i64 t325, .string (⟨#[]⟩ : ByteArray)]) ?_ 2 _ rfl; (with_reducible repeat (first | refine blk_drewN ?_ _ | refine blk_drew ?_ | refine blk_alloc ?_ _)); refine blk_put (cs := #[.int .i64 t324, .int .i64 0, .string (⟨#[]⟩ : ByteArray)]) ?_ 1 _ rfl; (with_reducible repeat (first | refine blk_drewN ?_ _ | refine blk_drew ?_ | refine blk_alloc ?_ _)); refine blk_put (cs := #[.int .i64 0, .int .i64 0, .string (⟨#[]⟩ : ByteArray)]) ?_ 0 _ rfl; (with_reducible repeat (first | refine blk_drewN ?_ _ | refine blk_drew ?_ | refine blk_alloc ?_ _)); exact BK329.out) hg (Kd.R_ne HO_320005.out BK329.out (by decide))); have n5_ := Aside0.mk (hb); have n6_ := Aside0.mk (ho); clear HO_320004; clear BK295; clear BK296; clear BK319; clear BK329; clear HB; clear HO_320005; have HO_320004 := n0_; have BK295 := n1_; have BK296 := n2_; have BK319 := n3_; have BK329 := n4_; have HB := n5_; have HO332 := n6_; clear n0_ n1_ n2_ n3_ n4_ n5_ n6_; clear ho hb hg hat; obtain ⟨Ao67, co67, eo67⟩ := Kd.R_slice HO332.out; subst eo67; have hcz68 := Zz.c6 BK319.out; have hfz68 := blk_frozen BK319.out))
              go_roundg k3
              case measure => have := HJ2.out; have := HJ25.out; have := HK3.out; omega
              case rel => exact ⟨(t327), (wrap64 (x15_3 + 1)), (x296000_3), (x296001_3), (x296002_3), (x296003_3), (y330), (.slice Ao67 y330.length co67), Zz.q, Zz.q, H', ⟨by have := HJ2.out; have := HJ25.out; have := HK3.out; omega⟩, ⟨by (with_reducible repeat (first | apply Kd.R_alloc | apply Kd.R_drewN | apply Kd.R_drew)); exact Kd.R_mono (Kd.R_far (p := ⟨gb319, 5, none⟩) (Kd.R_types HO_320004.out BK319.out (by decide)) (fun _ hk => hk.2) (.slice Ao67 y330.length co67)) (fun _ hk => trivial)⟩, ⟨by (with_reducible repeat (first | apply Kd.R_alloc | apply Kd.R_drewN | apply Kd.R_drew)); exact Kd.R_mono (Kd.R_far (p := ⟨gb319, 5, none⟩) (Kd.R_types HO332.out BK319.out (by decide)) (fun _ hk => hk.2) (.slice Ao67 y330.length co67)) (fun _ hk => trivial)⟩, ⟨Zz.p1 BK295.out NB295_319.out⟩, ⟨Zz.p1 BK296.out NB296_319.out⟩, ⟨by (with_reducible repeat (first | refine blk_drewN ?_ _ | refine blk_drew ?_ | refine blk_alloc ?_ _)); refine blk_put (cs := #[.int .i64 (rd t297 0), .int .i64 (rd t297 1), .int .i64 (rd t297 2), .int .i64 (rd t297 3), .slice Ao42 t307.length co42, u320005]) ?_ 5 _ rfl; (with_reducible repeat (first | refine blk_drewN ?_ _ | refine blk_drew ?_ | refine blk_alloc ?_ _)); exact BK319.out⟩, ⟨by repeat (first | (with_reducible first | exact HB.out | apply below_alloc | apply pw_below_drewN | apply below_drew1 | refine below_set ?_ GE295.out | refine below_set ?_ GE296.out | refine below_set ?_ GE319.out | refine below_set ?_ GE329.out) | exact HB.out)⟩⟩
             rw [if_neg c55] at H
             exact absurd H (by simp)
            rw [if_neg c54] at H
            have c54b0 : (t328 == 0) = false := beq_eq_false_iff_ne.mpr c54
            have c54b1 : (t328 != 0) = true := bne_iff_ne.mpr c54
            simp only [Option.some.injEq, Prod.mk.injEq] at H
            obtain ⟨rfl, rfl, rfl, rfl, rfl, rfl, rfl⟩ := H
            go_wp2_with (first | ((with_reducible refine gate_callee (f := 35) rfl ?_); refine goesL_ (some 107) rfl rfl Try.func35 (by kernel_rfl) rfl #[.string x12_3] rfl Zz.g ?_; (with_reducible refine (headgateref01_Take.calls k3 x12_3 t321 t322 t323 _ A51.out).mono ?_); rintro e w69 ⟨rfl, hb⟩; refine ⟨_, rfl, ?_⟩; replace HO_320004 := Aside0.mk (Kd.R_below (Zz.r HO_320004.out) hb); replace HO_320005 := Aside0.mk (Kd.R_below (Zz.r HO_320005.out) hb); replace BK295 := Aside0.mk (Zz.bb BK295.out hb); replace BK296 := Aside0.mk (Zz.bb BK296.out hb); replace BK319 := Aside0.mk (Zz.bb BK319.out hb); replace HB := Aside0.mk (below_step (Zz.i HB.out) hb); (try clear hb)) | ((with_reducible refine gate_callee (f := 36) rfl ?_); refine goesL_ (some 113) rfl rfl Try.func36 (by kernel_rfl) rfl #[.string t322] rfl Zz.g ?_; (with_reducible refine (headgateref06_TakeRecord.calls k3 t322 t324 t325 t326 t327 t328 _ A52.out).mono ?_); rintro e w70 ⟨rfl, hb⟩; refine ⟨_, rfl, ?_⟩; replace HO_320004 := Aside0.mk (Kd.R_below (Zz.r HO_320004.out) hb); replace HO_320005 := Aside0.mk (Kd.R_below (Zz.r HO_320005.out) hb); replace BK295 := Aside0.mk (Zz.bb BK295.out hb); replace BK296 := Aside0.mk (Zz.bb BK296.out hb); replace BK319 := Aside0.mk (Zz.bb BK319.out hb); replace HB := Aside0.mk (below_step (Zz.i HB.out) hb); (try clear hb)) | ((with_reducible refine gate_dst (N := 19) rfl ?_); refine box_event ?hg (N := 19) ?hd (cs := #[.int .i64 0, .int .i64 0, .string (⟨#[]⟩ : ByteArray)]) (t := 57) ?hr ?_; (case hd => rfl); (case hg => rfl); (case hr => first | (go_simp; done) | (go_simp; rfl)); intro gb329 hg w71 hbox hb; replace HO_320004 := Aside0.mk (Kd.R_below (Zz.r HO_320004.out) hb); replace HO_320005 := Aside0.mk (Kd.R_below (Zz.r HO_320005.out) hb); have BK329 := Aside0.mk (hbox); have GW329 := Aside0.mk (Zz.ge hg HB.out); have GE329 := Aside0.mk (Zz.ge hg HB.out); replace HB := Aside0.mk (below_step (Zz.i HB.out) hb); have NB295_329 := Aside0.mk (Zz.nl hg BK295.out); have NB329_295 := Aside0.mk (Zz.ng hg BK295.out); replace BK295 := Aside0.mk (Zz.bb BK295.out hb); have NB296_329 := Aside0.mk (Zz.nl hg BK296.out); have NB329_296 := Aside0.mk (Zz.ng hg BK296.out); replace BK296 := Aside0.mk (Zz.bb BK296.out hb); have NB319_329 := Aside0.mk (Zz.nl hg BK319.out); have NB329_319 := Aside0.mk (Zz.ng hg BK319.out); replace BK319 := Aside0.mk (Zz.bb BK319.out hb); clear hb hbox hg; have hnb72 := NB329_295.out; have hnc72 := NB295_329.out; have hnb73 := NB329_296.out; have hnc73 := NB296_329.out; have hnb74 := NB329_319.out; have hnc74 := NB319_329.out; have hcz75 := Zz.c3 BK329.out; have hfz75 := blk_frozen BK329.out; have hnb76 := NB296_295.out; have hnc76 := NB295_296.out; have hnb77 := NB296_319.out; have hnc77 := NB319_296.out; have hcz78 := Zz.c6 BK296.out; have hfz78 := blk_frozen BK296.out; have hnb79 := NB295_319.out; have hnc79 := NB319_295.out; have hcz80 := Zz.c6 BK295.out; have hfz80 := blk_frozen BK295.out))
            refine bodyPost_ret (results_ct rfl _ _ gb295 26 #[.int .i64 0, .int .i64 0, .int .i64 0, .int .i64 0, .slice none 0 0, .slice none 0 0] (0, 0) _ rfl (by (with_reducible repeat (first | refine blk_drewN ?_ _ | refine blk_drew ?_ | refine blk_alloc ?_ _)); refine blk_put (cs := #[.int .i64 0, .int .i64 0, .int .i64 0, .int .i64 0, .slice none 0 0, .slice none 0 0]) ?_ 5 _ rfl; (with_reducible repeat (first | refine blk_drewN ?_ _ | refine blk_drew ?_ | refine blk_alloc ?_ _)); refine blk_put (cs := #[.int .i64 0, .int .i64 0, .int .i64 0, .int .i64 0, .slice none 0 0, .slice none 0 0]) ?_ 4 _ rfl; (with_reducible repeat (first | refine blk_drewN ?_ _ | refine blk_drew ?_ | refine blk_alloc ?_ _)); refine blk_put (cs := #[.int .i64 0, .int .i64 0, .int .i64 0, .int .i64 x296003_3, .slice none 0 0, .slice none 0 0]) ?_ 3 _ rfl; (with_reducible repeat (first | refine blk_drewN ?_ _ | refine blk_drew ?_ | refine blk_alloc ?_ _)); refine blk_put (cs := #[.int .i64 0, .int .i64 0, .int .i64 x296002_3, .int .i64 x296003_3, .slice none 0 0, .slice none 0 0]) ?_ 2 _ rfl; (with_reducible repeat (first | refine blk_drewN ?_ _ | refine blk_drew ?_ | refine blk_alloc ?_ _)); refine blk_put (cs := #[.int .i64 0, .int .i64 x296001_3, .int .i64 x296002_3, .int .i64 x296003_3, .slice none 0 0, .slice none 0 0]) ?_ 1 _ rfl; (with_reducible repeat (first | refine blk_drewN ?_ _ | refine blk_drew ?_ | refine blk_alloc ?_ _)); refine blk_put (cs := #[.int .i64 x296000_3, .int .i64 x296001_3, .int .i64 x296002_3, .int .i64 x296003_3, .slice none 0 0, .slice none 0 0]) ?_ 0 _ rfl; (with_reducible repeat (first | refine blk_drewN ?_ _ | refine blk_drew ?_ | refine blk_alloc ?_ _)); refine blk_far ?_ NB295_329.out _; (with_reducible repeat (first | refine blk_drewN ?_ _ | refine blk_drew ?_ | refine blk_alloc ?_ _)); refine blk_far ?_ NB295_329.out _; (with_reducible repeat (first | refine blk_drewN ?_ _ | refine blk_drew ?_ | refine blk_alloc ?_ _)); refine blk_far ?_ NB295_329.out _; (with_reducible repeat (first | refine blk_drewN ?_ _ | refine blk_drew ?_ | refine blk_alloc ?_ _)); exact BK295.out) Try.underlying26 rfl (by kernel_rfl)) rfl ?_
            exact ⟨_, _, by first | rfl | (simp [errW_none, errW_some] <;> rfl) | (simp [*, errW_none, errW_some] <;> rfl), by first | exact Kd.R_nil _ _ _ _ _ | exact Kd.N_nil _ _ _ _ _ | exact Kd.V_nil _ _ _ _ _ | exact Kd.Q_nil _ _ _ _ _ | exact Kd.S_nil _ _ _ _ _, by first | exact Kd.R_nil _ _ _ _ _ | exact Kd.N_nil _ _ _ _ _ | exact Kd.V_nil _ _ _ _ _ | exact Kd.Q_nil _ _ _ _ _ | exact Kd.S_nil _ _ _ _ _, by repeat (first | (with_reducible first | exact HB.out | apply below_alloc | apply pw_below_drewN | apply below_drew1 | refine below_set ?_ GE295.out | refine below_set ?_ GE296.out | refine below_set ?_ GE319.out | refine below_set ?_ GE329.out) | exact HB.out)⟩
           rw [if_neg c53] at H
           have c53b0 : (t323 == 0) = false := beq_eq_false_iff_ne.mpr c53
           have c53b1 : (t323 != 0) = true := bne_iff_ne.mpr c53
           simp only [Option.some.injEq, Prod.mk.injEq] at H
           obtain ⟨rfl, rfl, rfl, rfl, rfl, rfl, rfl⟩ := H
           go_wp2_with (first | ((with_reducible refine gate_callee (f := 35) rfl ?_); refine goesL_ (some 107) rfl rfl Try.func35 (by kernel_rfl) rfl #[.string x12_3] rfl Zz.g ?_; (with_reducible refine (headgateref01_Take.calls k3 x12_3 t321 t322 t323 _ A51.out).mono ?_); rintro e w81 ⟨rfl, hb⟩; refine ⟨_, rfl, ?_⟩; replace HO_320004 := Aside0.mk (Kd.R_below (Zz.r HO_320004.out) hb); replace HO_320005 := Aside0.mk (Kd.R_below (Zz.r HO_320005.out) hb); replace BK295 := Aside0.mk (Zz.bb BK295.out hb); replace BK296 := Aside0.mk (Zz.bb BK296.out hb); replace BK319 := Aside0.mk (Zz.bb BK319.out hb); replace HB := Aside0.mk (below_step (Zz.i HB.out) hb); (try clear hb)) | ((with_reducible refine gate_callee (f := 36) rfl ?_); refine goesL_ (some 113) rfl rfl Try.func36 (by kernel_rfl) rfl #[.string t322] rfl Zz.g ?_; (with_reducible refine (headgateref06_TakeRecord.calls k3 t322 t324 t325 t326 t327 t328 _ A52.out).mono ?_); rintro e w82 ⟨rfl, hb⟩; refine ⟨_, rfl, ?_⟩; replace HO_320004 := Aside0.mk (Kd.R_below (Zz.r HO_320004.out) hb); replace HO_320005 := Aside0.mk (Kd.R_below (Zz.r HO_320005.out) hb); replace BK295 := Aside0.mk (Zz.bb BK295.out hb); replace BK296 := Aside0.mk (Zz.bb BK296.out hb); replace BK319 := Aside0.mk (Zz.bb BK319.out hb); replace HB := Aside0.mk (below_step (Zz.i HB.out) hb); (try clear hb)) | ((with_reducible refine gate_dst (N := 19) rfl ?_); refine box_event ?hg (N := 19) ?hd (cs := #[.int .i64 0, .int .i64 0, .string (⟨#[]⟩ : ByteArray)]) (t := 57) ?hr ?_; (case hd => rfl); (case hg => rfl); (case hr => first | (go_simp; done) | (go_simp; rfl)); intro gb329 hg w83 hbox hb; replace HO_320004 := Aside0.mk (Kd.R_below (Zz.r HO_320004.out) hb); replace HO_320005 := Aside0.mk (Kd.R_below (Zz.r HO_320005.out) hb); have BK329 := Aside0.mk (hbox); have GW329 := Aside0.mk (Zz.ge hg HB.out); have GE329 := Aside0.mk (Zz.ge hg HB.out); replace HB := Aside0.mk (below_step (Zz.i HB.out) hb); have NB295_329 := Aside0.mk (Zz.nl hg BK295.out); have NB329_295 := Aside0.mk (Zz.ng hg BK295.out); replace BK295 := Aside0.mk (Zz.bb BK295.out hb); have NB296_329 := Aside0.mk (Zz.nl hg BK296.out); have NB329_296 := Aside0.mk (Zz.ng hg BK296.out); replace BK296 := Aside0.mk (Zz.bb BK296.out hb); have NB319_329 := Aside0.mk (Zz.nl hg BK319.out); have NB329_319 := Aside0.mk (Zz.ng hg BK319.out); replace BK319 := Aside0.mk (Zz.bb BK319.out hb); clear hb hbox hg; have hnb84 := NB329_295.out; have hnc84 := NB295_329.out; have hnb85 := NB329_296.out; have hnc85 := NB296_329.out; have hnb86 := NB329_319.out; have hnc86 := NB319_329.out; have hcz87 := Zz.c3 BK329.out; have hfz87 := blk_frozen BK329.out; have hnb88 := NB296_295.out; have hnc88 := NB295_296.out; have hnb89 := NB296_319.out; have hnc89 := NB319_296.out; have hcz90 := Zz.c6 BK296.out; have hfz90 := blk_frozen BK296.out; have hnb91 := NB295_319.out; have hnc91 := NB319_295.out; have hcz92 := Zz.c6 BK295.out; have hfz92 := blk_frozen BK295.out))
           refine bodyPost_ret (results_ct rfl _ _ gb295 26 #[.int .i64 0, .int .i64 0, .int .i64 0, .int .i64 0, .slice none 0 0, .slice none 0 0] (0, 0) _ rfl (by (with_reducible repeat (first | refine blk_drewN ?_ _ | refine blk_drew ?_ | refine blk_alloc ?_ _)); refine blk_put (cs := #[.int .i64 0, .int .i64 0, .int .i64 0, .int .i64 0, .slice none 0 0, .slice none 0 0]) ?_ 5 _ rfl; (with_reducible repeat (first | refine blk_drewN ?_ _ | refine blk_drew ?_ | refine blk_alloc ?_ _)); refine blk_put (cs := #[.int .i64 0, .int .i64 0, .int .i64 0, .int .i64 0, .slice none 0 0, .slice none 0 0]) ?_ 4 _ rfl; (with_reducible repeat (first | refine blk_drewN ?_ _ | refine blk_drew ?_ | refine blk_alloc ?_ _)); refine blk_put (cs := #[.int .i64 0, .int .i64 0, .int .i64 0, .int .i64 x296003_3, .slice none 0 0, .slice none 0 0]) ?_ 3 _ rfl; (with_reducible repeat (first | refine blk_drewN ?_ _ | refine blk_drew ?_ | refine blk_alloc ?_ _)); refine blk_put (cs := #[.int .i64 0, .int .i64 0, .int .i64 x296002_3, .int .i64 x296003_3, .slice none 0 0, .slice none 0 0]) ?_ 2 _ rfl; (with_reducible repeat (first | refine blk_drewN ?_ _ | refine blk_drew ?_ | refine blk_alloc ?_ _)); refine blk_put (cs := #[.int .i64 0, .int .i64 x296001_3, .int .i64 x296002_3, .int .i64 x296003_3, .slice none 0 0, .slice none 0 0]) ?_ 1 _ rfl; (with_reducible repeat (first | refine blk_drewN ?_ _ | refine blk_drew ?_ | refine blk_alloc ?_ _)); refine blk_put (cs := #[.int .i64 x296000_3, .int .i64 x296001_3, .int .i64 x296002_3, .int .i64 x296003_3, .slice none 0 0, .slice none 0 0]) ?_ 0 _ rfl; (with_reducible repeat (first | refine blk_drewN ?_ _ | refine blk_drew ?_ | refine blk_alloc ?_ _)); refine blk_far ?_ NB295_329.out _; (with_reducible repeat (first | refine blk_drewN ?_ _ | refine blk_drew ?_ | refine blk_alloc ?_ _)); refine blk_far ?_ NB295_329.out _; (with_reducible repeat (first | refine blk_drewN ?_ _ | refine blk_drew ?_ | refine blk_alloc ?_ _)); refine blk_far ?_ NB295_329.out _; (with_reducible repeat (first | refine blk_drewN ?_ _ | refine blk_drew ?_ | refine blk_alloc ?_ _)); exact BK295.out) Try.underlying26 rfl (by kernel_rfl)) rfl ?_
           exact ⟨_, _, by first | rfl | (simp [errW_none, errW_some] <;> rfl) | (simp [*, errW_none, errW_some] <;> rfl), by first | exact Kd.R_nil _ _ _ _ _ | exact Kd.N_nil _ _ _ _ _ | exact Kd.V_nil _ _ _ _ _ | exact Kd.Q_nil _ _ _ _ _ | exact Kd.S_nil _ _ _ _ _, by first | exact Kd.R_nil _ _ _ _ _ | exact Kd.N_nil _ _ _ _ _ | exact Kd.V_nil _ _ _ _ _ | exact Kd.Q_nil _ _ _ _ _ | exact Kd.S_nil _ _ _ _ _, by repeat (first | (with_reducible first | exact HB.out | apply below_alloc | apply pw_below_drewN | apply below_drew1 | refine below_set ?_ GE295.out | refine below_set ?_ GE296.out | refine below_set ?_ GE319.out | refine below_set ?_ GE329.out) | exact HB.out)⟩
          rw [if_neg c50] at H
          have c50b0 : decide (x15_3 < t312) = false := decide_eq_false c50
          clear c50
          by_cases c93 : (x12_3.size : Int) > 0
          ·rw [if_pos c93] at H
           have c93b0 : decide (0 < (x12_3.size : Int)) = true := decide_eq_true c93
           have c93b1 : decide (0 < x12_3.size) = true := decide_eq_true (by omega)
           clear c93
           simp only [Option.some.injEq, Prod.mk.injEq] at H
           obtain ⟨rfl, rfl, rfl, rfl, rfl, rfl, rfl⟩ := H
           have hnb94 := NB296_295.out
           have hnc94 := NB295_296.out
           have hnb95 := NB296_319.out
           have hnc95 := NB319_296.out
           have hcz96 := Zz.c6 BK296.out
           have hfz96 := blk_frozen BK296.out
           have hnb97 := NB295_319.out
           have hnc97 := NB319_295.out
           have hcz98 := Zz.c6 BK295.out
           have hfz98 := blk_frozen BK295.out
           go_wp2
           refine bodyPost_ret (results_ct rfl _ _ gb295 26 #[.int .i64 0, .int .i64 0, .int .i64 0, .int .i64 0, .slice none 0 0, .slice none 0 0] (0, 0) _ rfl (by (with_reducible repeat (first | refine blk_drewN ?_ _ | refine blk_drew ?_ | refine blk_alloc ?_ _)); refine blk_put (cs := #[.int .i64 0, .int .i64 0, .int .i64 0, .int .i64 0, .slice none 0 0, .slice none 0 0]) ?_ 5 _ rfl; (with_reducible repeat (first | refine blk_drewN ?_ _ | refine blk_drew ?_ | refine blk_alloc ?_ _)); refine blk_put (cs := #[.int .i64 0, .int .i64 0, .int .i64 0, .int .i64 0, .slice none 0 0, .slice none 0 0]) ?_ 4 _ rfl; (with_reducible repeat (first | refine blk_drewN ?_ _ | refine blk_drew ?_ | refine blk_alloc ?_ _)); refine blk_put (cs := #[.int .i64 0, .int .i64 0, .int .i64 0, .int .i64 x296003_3, .slice none 0 0, .slice none 0 0]) ?_ 3 _ rfl; (with_reducible repeat (first | refine blk_drewN ?_ _ | refine blk_drew ?_ | refine blk_alloc ?_ _)); refine blk_put (cs := #[.int .i64 0, .int .i64 0, .int .i64 x296002_3, .int .i64 x296003_3, .slice none 0 0, .slice none 0 0]) ?_ 2 _ rfl; (with_reducible repeat (first | refine blk_drewN ?_ _ | refine blk_drew ?_ | refine blk_alloc ?_ _)); refine blk_put (cs := #[.int .i64 0, .int .i64 x296001_3, .int .i64 x296002_3, .int .i64 x296003_3, .slice none 0 0, .slice none 0 0]) ?_ 1 _ rfl; (with_reducible repeat (first | refine blk_drewN ?_ _ | refine blk_drew ?_ | refine blk_alloc ?_ _)); refine blk_put (cs := #[.int .i64 x296000_3, .int .i64 x296001_3, .int .i64 x296002_3, .int .i64 x296003_3, .slice none 0 0, .slice none 0 0]) ?_ 0 _ rfl; (with_reducible repeat (first | refine blk_drewN ?_ _ | refine blk_drew ?_ | refine blk_alloc ?_ _)); exact BK295.out) Try.underlying26 rfl (by kernel_rfl)) rfl ?_
           exact ⟨_, _, by first | rfl | (simp [errW_none, errW_some] <;> rfl) | (simp [*, errW_none, errW_some] <;> rfl), by first | exact Kd.R_nil _ _ _ _ _ | exact Kd.N_nil _ _ _ _ _ | exact Kd.V_nil _ _ _ _ _ | exact Kd.Q_nil _ _ _ _ _ | exact Kd.S_nil _ _ _ _ _, by first | exact Kd.R_nil _ _ _ _ _ | exact Kd.N_nil _ _ _ _ _ | exact Kd.V_nil _ _ _ _ _ | exact Kd.Q_nil _ _ _ _ _ | exact Kd.S_nil _ _ _ _ _, by repeat (first | (with_reducible first | exact HB.out | apply below_alloc | apply pw_below_drewN | apply below_drew1 | refine below_set ?_ GE295.out | refine below_set ?_ GE296.out | refine below_set ?_ GE319.out) | exact HB.out)⟩
          rw [if_neg c93] at H
          have c93b0 : decide (0 < (x12_3.size : Int)) = false := decide_eq_false c93
          have c93b1 : decide (0 < x12_3.size) = false := decide_eq_false (by omega)
          clear c93
          replace H := Option.bind_eq_some_iff.mp H
          obtain ⟨t320, A990, H⟩ := H
          replace H : (if t320 = true then (some ((rd t297 0), (rd t297 1), (rd t297 2), (rd t297 3), t307, x320005_3, 0)) else (some (0, 0, 0, 0, ([] : List Int), ([] : List (S59)), 2))) = some (r1, r2, r3, r4, r5, r6, r7) := H
          have A99 := Aside0.mk A990
          clear A990
          by_cases c100 : t320 = true
          ·subst c100
           have H1 : (some ((rd t297 0), (rd t297 1), (rd t297 2), (rd t297 3), t307, x320005_3, 0)) = some (r1, r2, r3, r4, r5, r6, r7) := by rw [if_pos rfl] at H; exact H
           clear H
           have H := H1
           clear H1
           simp only [Option.some.injEq, Prod.mk.injEq] at H
           obtain ⟨rfl, rfl, rfl, rfl, rfl, rfl, rfl⟩ := H
           have hnb101 := NB319_295.out
           have hnc101 := NB295_319.out
           have hnb102 := NB319_296.out
           have hnc102 := NB296_319.out
           have hcz103 := Zz.c6 BK319.out
           have hfz103 := blk_frozen BK319.out
           obtain ⟨Ao104, co104, eo104⟩ := Kd.R_slice HO_320005.out
           subst eo104
           go_wp2_with (first | (go_at_call 28; (with_reducible refine (headgateref18_MayReply.calls k3 (rd t297 0) (rd t297 1) (rd t297 2) (rd t297 3) _ _ t307 _ _ x320005_3 true _ ?side1 ?side2 ?side3 ?side4 A99.out).mono ?_); (case side1 => repeat (first | exact (Kd.R_reads' HO_320004.out).2.2 | (with_reducible refine Kd.C_alloc ?_ _) | (with_reducible refine Kd.C_drewN ?_ _) | (with_reducible refine Kd.C_drew ?_))); (case side2 => exact (Kd.R_reads' HO_320004.out).2.1); (case side3 => repeat (first | exact (Kd.R_reads' HO_320005.out).2.2 | (with_reducible refine Kd.C_alloc ?_ _) | (with_reducible refine Kd.C_drewN ?_ _) | (with_reducible refine Kd.C_drew ?_))); (case side4 => exact (Kd.R_reads' HO_320005.out).2.1); rintro e w105 ⟨rfl, hb⟩; replace HO_320004 := Aside0.mk (Kd.R_below (Zz.r HO_320004.out) hb); replace HO_320005 := Aside0.mk (Kd.R_below (Zz.r HO_320005.out) hb); replace BK295 := Aside0.mk (Zz.bb BK295.out hb); replace BK296 := Aside0.mk (Zz.bb BK296.out hb); replace BK319 := Aside0.mk (Zz.bb BK319.out hb); replace HB := Aside0.mk (below_step (Zz.i HB.out) hb); (try clear hb); have hcz106 := Zz.c6 BK319.out; have hfz106 := blk_frozen BK319.out; have hnb107 := NB295_296.out; have hnc107 := NB296_295.out; have hcz108 := Zz.c6 BK295.out; have hfz108 := blk_frozen BK295.out))
           refine bodyPost_ret (results_ct rfl _ _ gb295 26 #[.int .i64 (rd t297 0), .int .i64 (rd t297 1), .int .i64 (rd t297 2), .int .i64 (rd t297 3), .slice Ao42 t307.length co42, .slice Ao104 x320005_3.length co104] (0, 0) _ rfl (by (with_reducible repeat (first | refine blk_drewN ?_ _ | refine blk_drew ?_ | refine blk_alloc ?_ _)); refine blk_put (cs := #[.int .i64 (rd t297 0), .int .i64 (rd t297 1), .int .i64 (rd t297 2), .int .i64 (rd t297 3), .slice Ao42 t307.length co42, .slice none 0 0]) ?_ 5 _ rfl; (with_reducible repeat (first | refine blk_drewN ?_ _ | refine blk_drew ?_ | refine blk_alloc ?_ _)); refine blk_put (cs := #[.int .i64 (rd t297 0), .int .i64 (rd t297 1), .int .i64 (rd t297 2), .int .i64 (rd t297 3), .slice none 0 0, .slice none 0 0]) ?_ 4 _ rfl; (with_reducible repeat (first | refine blk_drewN ?_ _ | refine blk_drew ?_ | refine blk_alloc ?_ _)); refine blk_put (cs := #[.int .i64 (rd t297 0), .int .i64 (rd t297 1), .int .i64 (rd t297 2), .int .i64 x296003_3, .slice none 0 0, .slice none 0 0]) ?_ 3 _ rfl; (with_reducible repeat (first | refine blk_drewN ?_ _ | refine blk_drew ?_ | refine blk_alloc ?_ _)); refine blk_put (cs := #[.int .i64 (rd t297 0), .int .i64 (rd t297 1), .int .i64 x296002_3, .int .i64 x296003_3, .slice none 0 0, .slice none 0 0]) ?_ 2 _ rfl; (with_reducible repeat (first | refine blk_drewN ?_ _ | refine blk_drew ?_ | refine blk_alloc ?_ _)); refine blk_put (cs := #[.int .i64 (rd t297 0), .int .i64 x296001_3, .int .i64 x296002_3, .int .i64 x296003_3, .slice none 0 0, .slice none 0 0]) ?_ 1 _ rfl; (with_reducible repeat (first | refine blk_drewN ?_ _ | refine blk_drew ?_ | refine blk_alloc ?_ _)); refine blk_put (cs := #[.int .i64 x296000_3, .int .i64 x296001_3, .int .i64 x296002_3, .int .i64 x296003_3, .slice none 0 0, .slice none 0 0]) ?_ 0 _ rfl; (with_reducible repeat (first | refine blk_drewN ?_ _ | refine blk_drew ?_ | refine blk_alloc ?_ _)); exact BK295.out) Try.underlying26 rfl (by kernel_rfl)) rfl ?_
           exact ⟨_, _, by first | rfl | (simp [errW_none, errW_some] <;> rfl) | (simp [*, errW_none, errW_some] <;> rfl), by (with_reducible repeat (first | apply Kd.R_alloc | apply Kd.R_drewN | apply Kd.R_drew)); exact Kd.R_mono (Kd.R_far (p := ⟨gb295, 5, none⟩) (Kd.R_far (p := ⟨gb295, 4, none⟩) (Kd.R_far (p := ⟨gb295, 3, none⟩) (Kd.R_far (p := ⟨gb295, 2, none⟩) (Kd.R_far (p := ⟨gb295, 1, none⟩) (Kd.R_far (p := ⟨gb295, 0, none⟩) (Kd.R_types HO_320004.out BK295.out (by decide)) (fun _ hk => hk.2) (.int .i64 (rd t297 0))) (fun _ hk => hk.2) (.int .i64 (rd t297 1))) (fun _ hk => hk.2) (.int .i64 (rd t297 2))) (fun _ hk => hk.2) (.int .i64 (rd t297 3))) (fun _ hk => hk.2) (.slice Ao42 t307.length co42)) (fun _ hk => hk.2) (.slice Ao104 x320005_3.length co104)) (fun _ hk => trivial), by (with_reducible repeat (first | apply Kd.R_alloc | apply Kd.R_drewN | apply Kd.R_drew)); exact Kd.R_mono (Kd.R_far (p := ⟨gb295, 5, none⟩) (Kd.R_far (p := ⟨gb295, 4, none⟩) (Kd.R_far (p := ⟨gb295, 3, none⟩) (Kd.R_far (p := ⟨gb295, 2, none⟩) (Kd.R_far (p := ⟨gb295, 1, none⟩) (Kd.R_far (p := ⟨gb295, 0, none⟩) (Kd.R_types HO_320005.out BK295.out (by decide)) (fun _ hk => hk.2) (.int .i64 (rd t297 0))) (fun _ hk => hk.2) (.int .i64 (rd t297 1))) (fun _ hk => hk.2) (.int .i64 (rd t297 2))) (fun _ hk => hk.2) (.int .i64 (rd t297 3))) (fun _ hk => hk.2) (.slice Ao42 t307.length co42)) (fun _ hk => hk.2) (.slice Ao104 x320005_3.length co104)) (fun _ hk => trivial), by repeat (first | (with_reducible first | exact HB.out | apply below_alloc | apply pw_below_drewN | apply below_drew1 | refine below_set ?_ GE295.out | refine below_set ?_ GE296.out | refine below_set ?_ GE319.out) | exact HB.out)⟩
          replace c100 := Bool.eq_false_iff.mpr c100
          subst c100
          have H1 : (some (0, 0, 0, 0, ([] : List Int), ([] : List (S59)), 2)) = some (r1, r2, r3, r4, r5, r6, r7) := by rw [if_neg (show ¬ (false = true) by decide)] at H; exact H
          clear H
          have H := H1
          clear H1
          simp only [Option.some.injEq, Prod.mk.injEq] at H
          obtain ⟨rfl, rfl, rfl, rfl, rfl, rfl, rfl⟩ := H
          have hnb109 := NB319_295.out
          have hnc109 := NB295_319.out
          have hnb110 := NB319_296.out
          have hnc110 := NB296_319.out
          have hcz111 := Zz.c6 BK319.out
          have hfz111 := blk_frozen BK319.out
          obtain ⟨Ao112, co112, eo112⟩ := Kd.R_slice HO_320005.out
          subst eo112
          go_wp2_with (first | (go_at_call 28; (with_reducible refine (headgateref18_MayReply.calls k3 (rd t297 0) (rd t297 1) (rd t297 2) (rd t297 3) _ _ t307 _ _ x320005_3 false _ ?side1 ?side2 ?side3 ?side4 A99.out).mono ?_); (case side1 => repeat (first | exact (Kd.R_reads' HO_320004.out).2.2 | (with_reducible refine Kd.C_alloc ?_ _) | (with_reducible refine Kd.C_drewN ?_ _) | (with_reducible refine Kd.C_drew ?_))); (case side2 => exact (Kd.R_reads' HO_320004.out).2.1); (case side3 => repeat (first | exact (Kd.R_reads' HO_320005.out).2.2 | (with_reducible refine Kd.C_alloc ?_ _) | (with_reducible refine Kd.C_drewN ?_ _) | (with_reducible refine Kd.C_drew ?_))); (case side4 => exact (Kd.R_reads' HO_320005.out).2.1); rintro e w113 ⟨rfl, hb⟩; replace HO_320004 := Aside0.mk (Kd.R_below (Zz.r HO_320004.out) hb); replace HO_320005 := Aside0.mk (Kd.R_below (Zz.r HO_320005.out) hb); replace BK295 := Aside0.mk (Zz.bb BK295.out hb); replace BK296 := Aside0.mk (Zz.bb BK296.out hb); replace BK319 := Aside0.mk (Zz.bb BK319.out hb); replace HB := Aside0.mk (below_step (Zz.i HB.out) hb); (try clear hb); have hnb114 := NB296_295.out; have hnc114 := NB295_296.out; have hcz115 := Zz.c6 BK296.out; have hfz115 := blk_frozen BK296.out; have hcz116 := Zz.c6 BK295.out; have hfz116 := blk_frozen BK295.out))
          refine bodyPost_ret (results_ct rfl _ _ gb295 26 #[.int .i64 0, .int .i64 0, .int .i64 0, .int .i64 0, .slice none 0 0, .slice none 0 0] (0, 0) _ rfl (by (with_reducible repeat (first | refine blk_drewN ?_ _ | refine blk_drew ?_ | refine blk_alloc ?_ _)); refine blk_put (cs := #[.int .i64 0, .int .i64 0, .int .i64 0, .int .i64 0, .slice none 0 0, .slice none 0 0]) ?_ 5 _ rfl; (with_reducible repeat (first | refine blk_drewN ?_ _ | refine blk_drew ?_ | refine blk_alloc ?_ _)); refine blk_put (cs := #[.int .i64 0, .int .i64 0, .int .i64 0, .int .i64 0, .slice none 0 0, .slice none 0 0]) ?_ 4 _ rfl; (with_reducible repeat (first | refine blk_drewN ?_ _ | refine blk_drew ?_ | refine blk_alloc ?_ _)); refine blk_put (cs := #[.int .i64 0, .int .i64 0, .int .i64 0, .int .i64 x296003_3, .slice none 0 0, .slice none 0 0]) ?_ 3 _ rfl; (with_reducible repeat (first | refine blk_drewN ?_ _ | refine blk_drew ?_ | refine blk_alloc ?_ _)); refine blk_put (cs := #[.int .i64 0, .int .i64 0, .int .i64 x296002_3, .int .i64 x296003_3, .slice none 0 0, .slice none 0 0]) ?_ 2 _ rfl; (with_reducible repeat (first | refine blk_drewN ?_ _ | refine blk_drew ?_ | refine blk_alloc ?_ _)); refine blk_put (cs := #[.int .i64 0, .int .i64 x296001_3, .int .i64 x296002_3, .int .i64 x296003_3, .slice none 0 0, .slice none 0 0]) ?_ 1 _ rfl; (with_reducible repeat (first | refine blk_drewN ?_ _ | refine blk_drew ?_ | refine blk_alloc ?_ _)); refine blk_put (cs := #[.int .i64 x296000_3, .int .i64 x296001_3, .int .i64 x296002_3, .int .i64 x296003_3, .slice none 0 0, .slice none 0 0]) ?_ 0 _ rfl; (with_reducible repeat (first | refine blk_drewN ?_ _ | refine blk_drew ?_ | refine blk_alloc ?_ _)); exact BK295.out) Try.underlying26 rfl (by kernel_rfl)) rfl ?_
          exact ⟨_, _, by first | rfl | (simp [errW_none, errW_some] <;> rfl) | (simp [*, errW_none, errW_some] <;> rfl), by first | exact Kd.R_nil _ _ _ _ _ | exact Kd.N_nil _ _ _ _ _ | exact Kd.V_nil _ _ _ _ _ | exact Kd.Q_nil _ _ _ _ _ | exact Kd.S_nil _ _ _ _ _, by first | exact Kd.R_nil _ _ _ _ _ | exact Kd.N_nil _ _ _ _ _ | exact Kd.V_nil _ _ _ _ _ | exact Kd.Q_nil _ _ _ _ _ | exact Kd.S_nil _ _ _ _ _, by repeat (first | (with_reducible first | exact HB.out | apply below_alloc | apply pw_below_drewN | apply below_drew1 | refine below_set ?_ GE295.out | refine below_set ?_ GE296.out | refine below_set ?_ GE319.out) | exact HB.out)⟩
       rw [if_neg c40] at H
       exact absurd H (by simp)
      rw [if_neg c39] at H
      exact absurd H (by simp)
     rw [if_neg c38] at H
     exact absurd H (by simp)
    rw [if_neg c37] at H
    exact absurd H (by simp)
  rw [if_neg c23] at H
  exact absurd H (by simp)

end Go.Proofs.Ytikbpjdgihheiaa.P
