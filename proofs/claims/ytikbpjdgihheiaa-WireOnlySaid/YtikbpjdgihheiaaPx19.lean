-- Written by wip/mk.py of this repo: the kit's print program, with contracts of our own among its functions.
import Derived.Test.YtikbpjdgihheiaaPx0
import Derived.Test.YtikbpjdgihheiaaPx3
import Derived.Test.YtikbpjdgihheiaaPx4
import Derived.Test.YtikbpjdgihheiaaPx5
import Derived.Test.YtikbpjdgihheiaaPx7
import Derived.Test.YtikbpjdgihheiaaZz
-- pressed
namespace Go.Proofs.Ytikbpjdgihheiaa.P
open Go.RowKit Go.Proofs.YtikbpjdgihheiaaW.PrintWords Go.Proofs.YtikbpjdgihheiaaW.PrintLast Go.Proofs.YtikbpjdgihheiaaW.PrintMore
attribute [local go_sem] max2_int min2_int max_two min_two max_three min_three max_four min_four   -- for this text's walks alone
attribute [local go_sem ↓] Kp.LDAsk_in
attribute [local go_sem] Kp.LDAsk_run
set_option linter.unusedVariables false
set_option linter.unusedSimpArgs false

/-! ### wire_DecodeReply: function 12 -/
theorem wire_DecodeReply.far6 {W : World} {g : Nat} {a : Addr} {x : Option Value} (h : a.block ≠ g) {o0 o1 o2 o3 o4 o5 : Nat} {v0 v1 v2 v3 v4 v5 : Value} (e : W.cell? a = x) : ((((((W.setCell ⟨g, o0, none⟩ v0).setCell ⟨g, o1, none⟩ v1).setCell ⟨g, o2, none⟩ v2).setCell ⟨g, o3, none⟩ v3).setCell ⟨g, o4, none⟩ v4).setCell ⟨g, o5, none⟩ v5).cell? a = x := ((cell_far (p := ⟨g, o5, none⟩) h v5).trans ((cell_far (p := ⟨g, o4, none⟩) h v4).trans ((cell_far (p := ⟨g, o3, none⟩) h v3).trans ((cell_far (p := ⟨g, o2, none⟩) h v2).trans ((cell_far (p := ⟨g, o1, none⟩) h v1).trans ((cell_far (p := ⟨g, o0, none⟩) h v0).trans e))))))
mutual
def wire_DecodeReply.j0 : Nat → List Int → ByteArray → Bool → Int → Int → Int → Int → Int → Int → Int → Int → Option (Int × Int × Int × Int × List Int × (List (S59)) × Int)
  | 0, _, _, _, _, _, _, _, _, _, _, _ => none
  | k + 1, x5, x6, x52, x230000, x230001, x230002, x230003, x239000, x239001, x239002, x239003 => if x52 = true then (some (x230000, x230001, x230002, x230003, ([] : List Int), ([] : List (S59)), 2)) else (if 1 < (x5.length : Int) then (if 4 < (x5.length : Int) then ((varint_TakeAll.f k x6 (rd x5 4)).bind fun bt247 => (if bt247.2.2 = 0 then ((wire_within.f bt247.1).bind fun t252 => (wire_DecodeReply.j1 k bt247.2.1 (!t252) x230000 x230001 x230002 x230003 x239000 (rd x5 1) x239002 x239003 bt247.1)) else (wire_DecodeReply.j1 k bt247.2.1 true x230000 x230001 x230002 x230003 x239000 (rd x5 1) x239002 x239003 bt247.1))) else (none)) else (none))
def wire_DecodeReply.j1 : Nat → ByteArray → Bool → Int → Int → Int → Int → Int → Int → Int → Int → List Int → Option (Int × Int × Int × Int × List Int × (List (S59)) × Int)
  | 0, _, _, _, _, _, _, _, _, _, _, _ => none
  | k + 1, x6, x75, x230000, x230001, x230002, x230003, x239000, x239001, x239002, x239003, x239004 => if x75 = true then (some (x230000, x230001, x230002, x230003, ([] : List Int), ([] : List (S59)), 2)) else ((varint_Take.f x6).bind fun bt253 => (if bt253.2.2 = 0 then (if bt253.1 < 0 then (wire_DecodeReply.j2 k bt253.2.1 bt253.1 true x230000 x230001 x230002 x230003 x239000 x239001 x239002 x239003 x239004) else (wire_DecodeReply.j2 k bt253.2.1 bt253.1 (decide (bt253.1 > 2048)) x230000 x230001 x230002 x230003 x239000 x239001 x239002 x239003 x239004)) else (wire_DecodeReply.j2 k bt253.2.1 bt253.1 true x230000 x230001 x230002 x230003 x239000 x239001 x239002 x239003 x239004)))
def wire_DecodeReply.j2 : Nat → ByteArray → Int → Bool → Int → Int → Int → Int → Int → Int → Int → Int → List Int → Option (Int × Int × Int × Int × List Int × (List (S59)) × Int)
  | 0, _, _, _, _, _, _, _, _, _, _, _, _ => none
  | k + 1, x6, x9, x92, x230000, x230001, x230002, x230003, x239000, x239001, x239002, x239003, x239004 => if x92 = true then (some (x230000, x230001, x230002, x230003, ([] : List Int), ([] : List (S59)), 2)) else (wire_DecodeReply.l0 k x6 x9 0 x230000 x230001 x230002 x230003 x239000 x239001 x239002 x239003 x239004 ([] : List (S59)))
def wire_DecodeReply.l0 : Nat → ByteArray → Int → Int → Int → Int → Int → Int → Int → Int → Int → Int → List Int → List (S59) → Option (Int × Int × Int × Int × List Int × (List (S59)) × Int)
  | 0, _, _, _, _, _, _, _, _, _, _, _, _, _ => none
  | k + 1, x6, x94, x95, x230000, x230001, x230002, x230003, x239000, x239001, x239002, x239003, x239004, x239005 => if x95 < x94 then ((varint_Take.f x6).bind fun bt257 => (if bt257.2.2 = 0 then ((wire_within.f (([bt257.1] : List Int))).bind fun t263 => (wire_DecodeReply.j4 k bt257.2.1 x94 x95 (!t263) x230000 x230001 x230002 x230003 x239000 x239001 x239002 x239003 x239004 x239005 bt257.1 0 0 (⟨#[]⟩ : ByteArray))) else (wire_DecodeReply.j4 k bt257.2.1 x94 x95 true x230000 x230001 x230002 x230003 x239000 x239001 x239002 x239003 x239004 x239005 bt257.1 0 0 (⟨#[]⟩ : ByteArray)))) else (if x6.toList = ([] : List UInt8) then (some (x239000, x239001, x239002, x239003, x239004, x239005, 0)) else (some (x230000, x230001, x230002, x230003, ([] : List Int), ([] : List (S59)), 2)))
def wire_DecodeReply.j4 : Nat → ByteArray → Int → Int → Bool → Int → Int → Int → Int → Int → Int → Int → Int → List Int → List (S59) → Int → Int → Int → ByteArray → Option (Int × Int × Int × Int × List Int × (List (S59)) × Int)
  | 0, _, _, _, _, _, _, _, _, _, _, _, _, _, _, _, _, _, _ => none
  | k + 1, x6, x94, x95, x112, x230000, x230001, x230002, x230003, x239000, x239001, x239002, x239003, x239004, x239005, x257000, x257001, x257002, x257003 => if x112 = true then (some (x230000, x230001, x230002, x230003, ([] : List Int), ([] : List (S59)), 2)) else ((batch_TakeRecord.f k x6).bind fun bt264 => (if bt264.2.2.2.2 = 0 then (if x239005.length < 3518437208883 then (wire_DecodeReply.l0 k bt264.2.2.2.1 x94 (wrap64 (x95 + 1)) x230000 x230001 x230002 x230003 x239000 x239001 x239002 x239003 x239004 (x239005 ++ [(⟨x257000, (⟨bt264.1, bt264.2.1, bt264.2.2.1⟩ : S57)⟩ : S59)])) else (none)) else (some (x230000, x230001, x230002, x230003, ([] : List Int), ([] : List (S59)), 2))))
end
def wire_DecodeReply.f (k : Nat) (a0 : ByteArray) : Option (Int × Int × Int × Int × List Int × (List (S59)) × Int) := (varint_TakeAll.f k a0 5).bind fun bt230 => (if bt230.2.2 = 0 then (if 0 < (bt230.1.length : Int) then (if 2 < (bt230.1.length : Int) then (if 3 < (bt230.1.length : Int) then ((wire_within.f (([rd bt230.1 0, rd bt230.1 2, rd bt230.1 3] : List Int))).bind fun t242 => (if t242 = true then (if 1 < (bt230.1.length : Int) then (if (rd bt230.1 1) < 0 then (wire_DecodeReply.j0 k bt230.1 bt230.2.1 true 0 0 0 0 (rd bt230.1 0) 0 (rd bt230.1 2) (rd bt230.1 3)) else (wire_DecodeReply.j0 k bt230.1 bt230.2.1 (decide ((rd bt230.1 1) > 255)) 0 0 0 0 (rd bt230.1 0) 0 (rd bt230.1 2) (rd bt230.1 3))) else (none)) else (wire_DecodeReply.j0 k bt230.1 bt230.2.1 true 0 0 0 0 (rd bt230.1 0) 0 (rd bt230.1 2) (rd bt230.1 3)))) else (none)) else (none)) else (none)) else (some (0, 0, 0, 0, ([] : List Int), ([] : List (S59)), bt230.2.2)))
theorem wire_DecodeReply.mono_l : ∀ k, (∀ y0 y1 y2 y3 y4 y5 y6 y7 y8 y9 y10, LeO (wire_DecodeReply.j0 k y0 y1 y2 y3 y4 y5 y6 y7 y8 y9 y10) (wire_DecodeReply.j0 (k + 1) y0 y1 y2 y3 y4 y5 y6 y7 y8 y9 y10)) ∧ (∀ y0 y1 y2 y3 y4 y5 y6 y7 y8 y9 y10, LeO (wire_DecodeReply.j1 k y0 y1 y2 y3 y4 y5 y6 y7 y8 y9 y10) (wire_DecodeReply.j1 (k + 1) y0 y1 y2 y3 y4 y5 y6 y7 y8 y9 y10)) ∧ (∀ y0 y1 y2 y3 y4 y5 y6 y7 y8 y9 y10 y11, LeO (wire_DecodeReply.j2 k y0 y1 y2 y3 y4 y5 y6 y7 y8 y9 y10 y11) (wire_DecodeReply.j2 (k + 1) y0 y1 y2 y3 y4 y5 y6 y7 y8 y9 y10 y11)) ∧ (∀ y0 y1 y2 y3 y4 y5 y6 y7 y8 y9 y10 y11 y12, LeO (wire_DecodeReply.l0 k y0 y1 y2 y3 y4 y5 y6 y7 y8 y9 y10 y11 y12) (wire_DecodeReply.l0 (k + 1) y0 y1 y2 y3 y4 y5 y6 y7 y8 y9 y10 y11 y12)) ∧ (∀ y0 y1 y2 y3 y4 y5 y6 y7 y8 y9 y10 y11 y12 y13 y14 y15 y16 y17, LeO (wire_DecodeReply.j4 k y0 y1 y2 y3 y4 y5 y6 y7 y8 y9 y10 y11 y12 y13 y14 y15 y16 y17) (wire_DecodeReply.j4 (k + 1) y0 y1 y2 y3 y4 y5 y6 y7 y8 y9 y10 y11 y12 y13 y14 y15 y16 y17))
  | 0 => ⟨fun _ _ _ _ _ _ _ _ _ _ _ r h => by simp [wire_DecodeReply.j0] at h, fun _ _ _ _ _ _ _ _ _ _ _ r h => by simp [wire_DecodeReply.j1] at h, fun _ _ _ _ _ _ _ _ _ _ _ _ r h => by simp [wire_DecodeReply.j2] at h, fun _ _ _ _ _ _ _ _ _ _ _ _ _ r h => by simp [wire_DecodeReply.l0] at h, fun _ _ _ _ _ _ _ _ _ _ _ _ _ _ _ _ _ _ r h => by simp [wire_DecodeReply.j4] at h⟩
  | k + 1 => by
    obtain ⟨ih0, ih1, ih2, ih3, ih4⟩ := wire_DecodeReply.mono_l k
    refine ⟨?_, ?_, ?_, ?_, ?_⟩
    · intro y0 y1 y2 y3 y4 y5 y6 y7 y8 y9 y10
      unfold wire_DecodeReply.j0
      repeat' first
      | (with_reducible exact ih0 _ _ _ _ _ _ _ _ _ _ _)
      | (with_reducible exact ih1 _ _ _ _ _ _ _ _ _ _ _)
      | (with_reducible exact ih2 _ _ _ _ _ _ _ _ _ _ _ _)
      | (with_reducible exact ih3 _ _ _ _ _ _ _ _ _ _ _ _ _)
      | (with_reducible exact ih4 _ _ _ _ _ _ _ _ _ _ _ _ _ _ _ _ _ _)
      | (with_reducible exact batch_TakeRecord.mono _ _)
      | (with_reducible exact varint_TakeAll.mono _ _ _)
      | (with_reducible exact LeO.refl _)
      | (with_reducible exact LeO.none _)
      | (with_reducible refine LeO.ite ?_ ?_)
      | (with_reducible refine LeO.bind ?_ (fun _ => ?_))
      | exact ih0 _ _ _ _ _ _ _ _ _ _ _
      | exact ih1 _ _ _ _ _ _ _ _ _ _ _
      | exact ih2 _ _ _ _ _ _ _ _ _ _ _ _
      | exact ih3 _ _ _ _ _ _ _ _ _ _ _ _ _
      | exact ih4 _ _ _ _ _ _ _ _ _ _ _ _ _ _ _ _ _ _
      | exact batch_TakeRecord.mono _ _
      | exact varint_TakeAll.mono _ _ _
      | exact LeO.none _
      | refine LeO.ite ?_ ?_
      | refine LeO.bind ?_ (fun _ => ?_)
    · intro y0 y1 y2 y3 y4 y5 y6 y7 y8 y9 y10
      unfold wire_DecodeReply.j1
      repeat' first
      | (with_reducible exact ih0 _ _ _ _ _ _ _ _ _ _ _)
      | (with_reducible exact ih1 _ _ _ _ _ _ _ _ _ _ _)
      | (with_reducible exact ih2 _ _ _ _ _ _ _ _ _ _ _ _)
      | (with_reducible exact ih3 _ _ _ _ _ _ _ _ _ _ _ _ _)
      | (with_reducible exact ih4 _ _ _ _ _ _ _ _ _ _ _ _ _ _ _ _ _ _)
      | (with_reducible exact batch_TakeRecord.mono _ _)
      | (with_reducible exact varint_TakeAll.mono _ _ _)
      | (with_reducible exact LeO.refl _)
      | (with_reducible exact LeO.none _)
      | (with_reducible refine LeO.ite ?_ ?_)
      | (with_reducible refine LeO.bind ?_ (fun _ => ?_))
      | exact ih0 _ _ _ _ _ _ _ _ _ _ _
      | exact ih1 _ _ _ _ _ _ _ _ _ _ _
      | exact ih2 _ _ _ _ _ _ _ _ _ _ _ _
      | exact ih3 _ _ _ _ _ _ _ _ _ _ _ _ _
      | exact ih4 _ _ _ _ _ _ _ _ _ _ _ _ _ _ _ _ _ _
      | exact batch_TakeRecord.mono _ _
      | exact varint_TakeAll.mono _ _ _
      | exact LeO.none _
      | refine LeO.ite ?_ ?_
      | refine LeO.bind ?_ (fun _ => ?_)
    · intro y0 y1 y2 y3 y4 y5 y6 y7 y8 y9 y10 y11
      unfold wire_DecodeReply.j2
      repeat' first
      | (with_reducible exact ih0 _ _ _ _ _ _ _ _ _ _ _)
      | (with_reducible exact ih1 _ _ _ _ _ _ _ _ _ _ _)
      | (with_reducible exact ih2 _ _ _ _ _ _ _ _ _ _ _ _)
      | (with_reducible exact ih3 _ _ _ _ _ _ _ _ _ _ _ _ _)
      | (with_reducible exact ih4 _ _ _ _ _ _ _ _ _ _ _ _ _ _ _ _ _ _)
      | (with_reducible exact batch_TakeRecord.mono _ _)
      | (with_reducible exact varint_TakeAll.mono _ _ _)
      | (with_reducible exact LeO.refl _)
      | (with_reducible exact LeO.none _)
      | (with_reducible refine LeO.ite ?_ ?_)
      | (with_reducible refine LeO.bind ?_ (fun _ => ?_))
      | exact ih0 _ _ _ _ _ _ _ _ _ _ _
      | exact ih1 _ _ _ _ _ _ _ _ _ _ _
      | exact ih2 _ _ _ _ _ _ _ _ _ _ _ _
      | exact ih3 _ _ _ _ _ _ _ _ _ _ _ _ _
      | exact ih4 _ _ _ _ _ _ _ _ _ _ _ _ _ _ _ _ _ _
      | exact batch_TakeRecord.mono _ _
      | exact varint_TakeAll.mono _ _ _
      | exact LeO.none _
      | refine LeO.ite ?_ ?_
      | refine LeO.bind ?_ (fun _ => ?_)
    · intro y0 y1 y2 y3 y4 y5 y6 y7 y8 y9 y10 y11 y12
      unfold wire_DecodeReply.l0
      repeat' first
      | (with_reducible exact ih0 _ _ _ _ _ _ _ _ _ _ _)
      | (with_reducible exact ih1 _ _ _ _ _ _ _ _ _ _ _)
      | (with_reducible exact ih2 _ _ _ _ _ _ _ _ _ _ _ _)
      | (with_reducible exact ih3 _ _ _ _ _ _ _ _ _ _ _ _ _)
      | (with_reducible exact ih4 _ _ _ _ _ _ _ _ _ _ _ _ _ _ _ _ _ _)
      | (with_reducible exact batch_TakeRecord.mono _ _)
      | (with_reducible exact varint_TakeAll.mono _ _ _)
      | (with_reducible exact LeO.refl _)
      | (with_reducible exact LeO.none _)
      | (with_reducible refine LeO.ite ?_ ?_)
      | (with_reducible refine LeO.bind ?_ (fun _ => ?_))
      | exact ih0 _ _ _ _ _ _ _ _ _ _ _
      | exact ih1 _ _ _ _ _ _ _ _ _ _ _
      | exact ih2 _ _ _ _ _ _ _ _ _ _ _ _
      | exact ih3 _ _ _ _ _ _ _ _ _ _ _ _ _
      | exact ih4 _ _ _ _ _ _ _ _ _ _ _ _ _ _ _ _ _ _
      | exact batch_TakeRecord.mono _ _
      | exact varint_TakeAll.mono _ _ _
      | exact LeO.none _
      | refine LeO.ite ?_ ?_
      | refine LeO.bind ?_ (fun _ => ?_)
    · intro y0 y1 y2 y3 y4 y5 y6 y7 y8 y9 y10 y11 y12 y13 y14 y15 y16 y17
      unfold wire_DecodeReply.j4
      repeat' first
      | (with_reducible exact ih0 _ _ _ _ _ _ _ _ _ _ _)
      | (with_reducible exact ih1 _ _ _ _ _ _ _ _ _ _ _)
      | (with_reducible exact ih2 _ _ _ _ _ _ _ _ _ _ _ _)
      | (with_reducible exact ih3 _ _ _ _ _ _ _ _ _ _ _ _ _)
      | (with_reducible exact ih4 _ _ _ _ _ _ _ _ _ _ _ _ _ _ _ _ _ _)
      | (with_reducible exact batch_TakeRecord.mono _ _)
      | (with_reducible exact varint_TakeAll.mono _ _ _)
      | (with_reducible exact LeO.refl _)
      | (with_reducible exact LeO.none _)
      | (with_reducible refine LeO.ite ?_ ?_)
      | (with_reducible refine LeO.bind ?_ (fun _ => ?_))
      | exact ih0 _ _ _ _ _ _ _ _ _ _ _
      | exact ih1 _ _ _ _ _ _ _ _ _ _ _
      | exact ih2 _ _ _ _ _ _ _ _ _ _ _ _
      | exact ih3 _ _ _ _ _ _ _ _ _ _ _ _ _
      | exact ih4 _ _ _ _ _ _ _ _ _ _ _ _ _ _ _ _ _ _
      | exact batch_TakeRecord.mono _ _
      | exact varint_TakeAll.mono _ _ _
      | exact LeO.none _
      | refine LeO.ite ?_ ?_
      | refine LeO.bind ?_ (fun _ => ?_)
theorem wire_DecodeReply.mono : ∀ a0 k, LeO (wire_DecodeReply.f k a0) (wire_DecodeReply.f (k + 1) a0) := by
  intro a0 k
  obtain ⟨ih0, ih1, ih2, ih3, ih4⟩ := wire_DecodeReply.mono_l k
  unfold wire_DecodeReply.f
  repeat' first
      | (with_reducible exact ih0 _ _ _ _ _ _ _ _ _ _ _)
      | (with_reducible exact ih1 _ _ _ _ _ _ _ _ _ _ _)
      | (with_reducible exact ih2 _ _ _ _ _ _ _ _ _ _ _ _)
      | (with_reducible exact ih3 _ _ _ _ _ _ _ _ _ _ _ _ _)
      | (with_reducible exact ih4 _ _ _ _ _ _ _ _ _ _ _ _ _ _ _ _ _ _)
      | (with_reducible exact batch_TakeRecord.mono _ _)
      | (with_reducible exact varint_TakeAll.mono _ _ _)
      | (with_reducible exact LeO.refl _)
      | (with_reducible exact LeO.none _)
      | (with_reducible refine LeO.ite ?_ ?_)
      | (with_reducible refine LeO.bind ?_ (fun _ => ?_))
      | exact ih0 _ _ _ _ _ _ _ _ _ _ _
      | exact ih1 _ _ _ _ _ _ _ _ _ _ _
      | exact ih2 _ _ _ _ _ _ _ _ _ _ _ _
      | exact ih3 _ _ _ _ _ _ _ _ _ _ _ _ _
      | exact ih4 _ _ _ _ _ _ _ _ _ _ _ _ _ _ _ _ _ _
      | exact batch_TakeRecord.mono _ _
      | exact varint_TakeAll.mono _ _ _
      | exact LeO.none _
      | refine LeO.ite ?_ ?_
      | refine LeO.bind ?_ (fun _ => ?_)
def wire_DecodeReply.T5 : Bool × List (List Nat × List Nat) := (true, [([], []), ([0], [0]), ([1], [1]), ([], []), ([3], [3]), ([4], [4]), ([], []), ([6], [6]), ([7], [7]), ([2, 5, 8], [2, 5, 8]), ([], []), ([10, 9, 0, 1, 2, 3, 4, 5, 6, 7, 8, 9, 10], [9, 10])])
def wire_DecodeReply.B5 : List Nat := [0, 1, 3, 0, 8, 24, 0, 64, 192, 511, 0, 2047]
theorem wire_DecodeReply.tab5 : rtab .any (opsOf Try.f12 5) = wire_DecodeReply.T5 := by kernel_rfl
theorem wire_DecodeReply.bits5 : waitsOk wire_DecodeReply.T5.2 wire_DecodeReply.B5 = true := by kernel_rfl
set_option maxHeartbeats 8000000 in
set_option maxRecDepth 100000 in
theorem wire_DecodeReply.calls (k : Nat) (a0 : ByteArray) (r1 : Int) (r2 : Int) (r3 : Int) (r4 : Int) (r5 : List Int) (r6 : List (S59)) (r7 : Int) (w : World) (h : wire_DecodeReply.f k a0 = some (r1, r2, r3, r4, r5, r6, r7)) :
    Calls Try.prog 12 #[.string a0] w fun e w' => ∃ v4_ v5_ : Value, e = .returned (.tuple #[.agg #[.int .i64 r1, .int .i64 r2, .int .i64 r3, .int .i64 r4, v4_, v5_], .int .i64 r7]) ∧ Kd.R (Kd.int .i64) 3 w' w.heap.size (fun _ => True) v4_ r5 ∧ Kd.R k59 59 w' w.heap.size (fun _ => True) v5_ r6 ∧ Below w.heap.size w w' := by
 have hu26 := Try.underlying26
 have hu59 := Try.underlying59
 have hu57 := Try.underlying57
 have HB := Aside0.mk (Below.refl w.heap.size w)
 have H : ((varint_TakeAll.f k a0 5).bind fun bt230 => (if bt230.2.2 = 0 then (if 0 < (bt230.1.length : Int) then (if 2 < (bt230.1.length : Int) then (if 3 < (bt230.1.length : Int) then ((wire_within.f (([rd bt230.1 0, rd bt230.1 2, rd bt230.1 3] : List Int))).bind fun t242 => (if t242 = true then (if 1 < (bt230.1.length : Int) then (if (rd bt230.1 1) < 0 then (wire_DecodeReply.j0 k bt230.1 bt230.2.1 true 0 0 0 0 (rd bt230.1 0) 0 (rd bt230.1 2) (rd bt230.1 3)) else (wire_DecodeReply.j0 k bt230.1 bt230.2.1 (decide ((rd bt230.1 1) > 255)) 0 0 0 0 (rd bt230.1 0) 0 (rd bt230.1 2) (rd bt230.1 3))) else (none)) else (wire_DecodeReply.j0 k bt230.1 bt230.2.1 true 0 0 0 0 (rd bt230.1 0) 0 (rd bt230.1 2) (rd bt230.1 3)))) else (none)) else (none)) else (none)) else (some (0, 0, 0, 0, ([] : List Int), ([] : List (S59)), bt230.2.2)))) = some (r1, r2, r3, r4, r5, r6, r7) := h
 clear h
 replace H := Option.bind_eq_some_iff.mp H
 obtain ⟨⟨t230, t231, t232⟩, A20, H⟩ := H
 replace H : (if t232 = 0 then (if 0 < (t230.length : Int) then (if 2 < (t230.length : Int) then (if 3 < (t230.length : Int) then ((wire_within.f (([rd t230 0, rd t230 2, rd t230 3] : List Int))).bind fun t242 => (if t242 = true then (if 1 < (t230.length : Int) then (if (rd t230 1) < 0 then (wire_DecodeReply.j0 k t230 t231 true 0 0 0 0 (rd t230 0) 0 (rd t230 2) (rd t230 3)) else (wire_DecodeReply.j0 k t230 t231 (decide ((rd t230 1) > 255)) 0 0 0 0 (rd t230 0) 0 (rd t230 2) (rd t230 3))) else (none)) else (wire_DecodeReply.j0 k t230 t231 true 0 0 0 0 (rd t230 0) 0 (rd t230 2) (rd t230 3)))) else (none)) else (none)) else (none)) else (some (0, 0, 0, 0, ([] : List Int), ([] : List (S59)), t232))) = some (r1, r2, r3, r4, r5, r6, r7) := H
 have A2 := Aside0.mk A20
 clear A20
 by_cases c3 : t232 = 0
 ·rw [if_pos c3] at H
  have c3b0 : (t232 == 0) = true := beq_iff_eq.mpr c3
  have c3b1 : (t232 != 0) = false := bne_eq_false_iff_eq.mpr c3
  clear c3
  by_cases c4 : 0 < (t230.length : Int)
  ·rw [if_pos c4] at H
   have c4b0 : decide (0 < (t230.length : Int)) = true := decide_eq_true c4
   have c4b1 : decide (0 < t230.length) = true := decide_eq_true (by omega)
   clear c4
   by_cases c5 : 2 < (t230.length : Int)
   ·rw [if_pos c5] at H
    have c5b0 : decide (2 < (t230.length : Int)) = true := decide_eq_true c5
    have c5b1 : decide (2 < t230.length) = true := decide_eq_true (by omega)
    clear c5
    by_cases c6 : 3 < (t230.length : Int)
    ·rw [if_pos c6] at H
     have c6b0 : decide (3 < (t230.length : Int)) = true := decide_eq_true c6
     have c6b1 : decide (3 < t230.length) = true := decide_eq_true (by omega)
     clear c6
     have HC7 := Aside0.mk H
     clear H
     go_enter Try.func12, Try.ntmps12
     try go_wp2_with (first | ((with_reducible refine gate_dst (N := 2) rfl ?_); (try (refine gate_guard (by rfl) ?_; dsimp only)); refine box_event ?hg (N := 2) ?hd (cs := #[.int .i64 0, .int .i64 0, .int .i64 0, .int .i64 0, .slice none 0 0, .slice none 0 0]) (t := 26) ?hr ?_; (case hd => rfl); (case hg => rfl); (case hr => first | (go_simp; done) | (go_simp; rfl)); intro gb228 hg w8 hbox hb; have BK228 := Aside0.mk (hbox); have GW228 := Aside0.mk (Zz.ge hg HB.out); have GE228 := Aside0.mk (Zz.ge hg HB.out); replace HB := Aside0.mk (below_step (Zz.i HB.out) hb); clear hb hbox hg) | ((with_reducible refine gate_dst (N := 4) rfl ?_); (try (refine gate_guard (by rfl) ?_; dsimp only)); refine box_event ?hg (N := 4) ?hd (cs := #[.int .i64 0, .int .i64 0, .int .i64 0, .int .i64 0, .slice none 0 0, .slice none 0 0]) (t := 26) ?hr ?_; (case hd => rfl); (case hg => rfl); (case hr => first | (go_simp; done) | (go_simp; rfl)); intro gb229 hg w9 hbox hb; have BK229 := Aside0.mk (hbox); have GW229 := Aside0.mk (Zz.ge hg HB.out); have GE229 := Aside0.mk (Zz.ge hg HB.out); replace HB := Aside0.mk (below_step (Zz.i HB.out) hb); have NB228_229 := Aside0.mk (Zz.nl hg BK228.out); have NB229_228 := Aside0.mk (Zz.ng hg BK228.out); replace BK228 := Aside0.mk (Zz.bb BK228.out hb); clear hb hbox hg; have hnb10 := NB229_228.out; have hnc10 := NB228_229.out; have hcz11 := Zz.c6 BK229.out; have hfz11 := blk_frozen BK229.out) | ((with_reducible refine gate_callee (f := 32) rfl ?_); refine goesL_ (some 14) rfl rfl Try.func32 (by kernel_rfl) rfl #[.string a0, .int .i64 5] rfl Zz.g ?_; (with_reducible refine (varint_TakeAll.calls k a0 5 t230 t231 t232 _ A2.out).mono ?_); rintro e w12 ⟨v233, rfl, ho0, hb⟩; refine ⟨_, rfl, ?_⟩; have n0_ := Aside0.mk (Kd.R_lower ho0 (below_size (Zz.i HB.out))); have n1_ := Aside0.mk (blk_below (g := gb228) (o := .cells #[.int .i64 0, .int .i64 0, .int .i64 0, .int .i64 0, .slice none 0 0, .slice none 0 0] 26 (0, 0)) (by exact Zz.q6 BK228.out NB228_229.out) hb); have n2_ := Aside0.mk (blk_below (g := gb229) (o := .cells #[.int .i64 0, .int .i64 0, .int .i64 0, .int .i64 0, .slice none 0 0, .slice none 0 0] 26 (0, 0)) (by (with_reducible repeat (first | refine blk_drewN ?_ _ | refine blk_drew ?_ | refine blk_alloc ?_ _)); exact Zz.u6_0_5 BK229.out) hb); have n3_ := Aside0.mk (below_step (Zz.i HB.out) hb); clear BK228; clear BK229; clear HB; have HO234 := n0_; have BK228 := n1_; have BK229 := n2_; have HB := n3_; clear n0_ n1_ n2_ n3_; (try clear hb); (try clear ho0)))
     have n0_ := Aside0.mk (Kd.R_drew HO234.out)
     have n1_ := Aside0.mk (blk_drew BK228.out)
     have n2_ := Aside0.mk (blk_drew BK229.out)
     have n3_ := Aside0.mk (below_drew1 HB.out)
     clear HO234
     clear BK228
     clear BK229
     clear HB
     have HO234 := n0_
     have BK228 := n1_
     have BK229 := n2_
     have HB := n3_
     clear n0_ n1_ n2_ n3_
     obtain ⟨Ao14, co14, eo14⟩ := Kd.R_slice HO234.out
     (first | subst eo14 | (injection eo14 with f1_ f2_ f3_; have f4_ := f1_.symm; have f5_ := f3_.symm; clear f1_ f2_ f3_; subst f4_; subst f5_))
     have p235 : 0 ≤ (0 : Int) := (by omega)
     have q235 : 0 < (t230.length : Int) := of_decide_eq_true (by first | (with_reducible assumption) | assumption)
     obtain ⟨ad235, e235, hx235_0⟩ := Kd.at_int (Kd.R_reads' HO234.out).2.2 0 p235 q235
     cases e235
     have qi235 : (0 < t230.length) = True := eq_true (by omega)
     (try rw [show ((0 : Int)).toNat = 0 from rfl] at hx235_0)
     (try rw [Addr.add_zero'] at hx235_0)
     replace p235 := eq_true p235
     replace q235 := eq_true q235
     have p236 : 0 ≤ (2 : Int) := (by omega)
     have q236 : 2 < (t230.length : Int) := of_decide_eq_true (by first | (with_reducible assumption) | assumption)
     obtain ⟨ad236, e236, hx236_0⟩ := Kd.at_int (Kd.R_reads' HO234.out).2.2 2 p236 q236
     obtain rfl : ad235 = ad236 := (by injection e236)
     (try simp only [show (2 : Int).toNat = 2 from rfl, Nat.reduceMul, Nat.reduceEqDiff, Go.Addr.add, ↓reduceIte] at hx236_0)
     have qi236 : (2 < t230.length) = True := eq_true (by omega)
     (try rw [show ((2 : Int)).toNat = 2 from rfl] at hx236_0)
     replace p236 := eq_true p236
     replace q236 := eq_true q236
     have p237 : 0 ≤ (3 : Int) := (by omega)
     have q237 : 3 < (t230.length : Int) := of_decide_eq_true (by first | (with_reducible assumption) | assumption)
     obtain ⟨ad237, e237, hx237_0⟩ := Kd.at_int (Kd.R_reads' HO234.out).2.2 3 p237 q237
     obtain rfl : ad235 = ad237 := (by injection e237)
     (try simp only [show (3 : Int).toNat = 3 from rfl, Nat.reduceMul, Nat.reduceEqDiff, Go.Addr.add, ↓reduceIte] at hx237_0)
     have qi237 : (3 < t230.length) = True := eq_true (by omega)
     (try rw [show ((3 : Int)).toNat = 3 from rfl] at hx237_0)
     replace p237 := eq_true p237
     replace q237 := eq_true q237
     refine start_ (n := 12) (S := fun w' => w'.cell? ad235 = some (.int .i64 (rd t230 0)) ∧ w'.cell? ⟨ad235.block, ad235.off + 2, none⟩ = some (.int .i64 (rd t230 2)) ∧ w'.cell? ⟨ad235.block, ad235.off + 3, none⟩ = some (.int .i64 (rd t230 3))) (ds := []) #[false, false, false, false, false, false, false, false, false, false, false, false] (by kernel_rfl) rfl rfl ⟨hx235_0, hx236_0, hx237_0⟩ (fun hHeld => ?_); refine with_tabW wire_DecodeReply.tab5 wire_DecodeReply.bits5 (fun HT_ HW_ => ?_)
     generalize w12.drew = w13 at HO234 BK228 BK229 HB hx235_0 hx236_0 hx237_0 hHeld ⊢
     refine pure_ (i := 0) (N := some 22) (v := ?_) (a' := ?_) #[true, false, false, false, false, false, false, false, false, false, false, false] rfl rfl (any_of HT_.out (by kernel_rfl)) (fun _ _ _ h => h) (Or.inl ⟨by rfl, ?_⟩) ?_ ?_
     rotate_left
     ·intro w'
      go_simp
      with_reducible rfl
     rotate_left
     ·simp only [Act.put, List.setIfInBounds_toArray, List.set_cons_zero, List.set_cons_succ, i64_w, i32_w]
      rfl
     refine pure_ (i := 1) (N := some 23) (v := ?_) (a' := ?_) #[true, true, false, false, false, false, false, false, false, false, false, false] rfl rfl (any_of HT_.out (by kernel_rfl)) (fun _ _ _ h => h) (Or.inl ⟨by rfl, ?_⟩) ?_ ?_
     rotate_left
     ·intro w'
      go_simp
      with_reducible rfl
     rotate_left
     ·simp only [Act.put, List.setIfInBounds_toArray, List.set_cons_zero, List.set_cons_succ, i64_w, i32_w]
      rfl
     refine pure_ (i := 3) (N := some 25) (v := ?_) (a' := ?_) #[true, true, false, true, false, false, false, false, false, false, false, false] rfl rfl (any_of HT_.out (by kernel_rfl)) (fun _ _ _ h => h) (Or.inl ⟨by rfl, ?_⟩) ?_ ?_
     rotate_left
     ·intro w'
      go_simp
      with_reducible rfl
     rotate_left
     ·simp only [Act.put, List.setIfInBounds_toArray, List.set_cons_zero, List.set_cons_succ, i64_w, i32_w]
      rfl
     refine pure_ (i := 4) (N := some 26) (v := ?_) (a' := ?_) #[true, true, false, true, true, false, false, false, false, false, false, false] rfl rfl (any_of HT_.out (by kernel_rfl)) (fun _ _ _ h => h) (Or.inl ⟨by rfl, ?_⟩) ?_ ?_
     rotate_left
     ·intro w'
      go_simp
      with_reducible rfl
     rotate_left
     ·simp only [Act.put, List.setIfInBounds_toArray, List.set_cons_zero, List.set_cons_succ, i64_w, i32_w]
      rfl
     refine pure_ (i := 6) (N := some 28) (v := ?_) (a' := ?_) #[true, true, false, true, true, false, true, false, false, false, false, false] rfl rfl (any_of HT_.out (by kernel_rfl)) (fun _ _ _ h => h) (Or.inl ⟨by rfl, ?_⟩) ?_ ?_
     rotate_left
     ·intro w'
      go_simp
      with_reducible rfl
     rotate_left
     ·simp only [Act.put, List.setIfInBounds_toArray, List.set_cons_zero, List.set_cons_succ, i64_w, i32_w]
      rfl
     refine pure_ (i := 7) (N := some 29) (v := ?_) (a' := ?_) #[true, true, false, true, true, false, true, true, false, false, false, false] rfl rfl (any_of HT_.out (by kernel_rfl)) (fun _ _ _ h => h) (Or.inl ⟨by rfl, ?_⟩) ?_ ?_
     rotate_left
     ·intro w'
      go_simp
      with_reducible rfl
     rotate_left
     ·simp only [Act.put, List.setIfInBounds_toArray, List.set_cons_zero, List.set_cons_succ, i64_w, i32_w]
      rfl
     refine take_ (i := 2) (N := some 24) (v := ?_) (a' := ?_) #[true, true, true, true, true, false, true, true, false, false, false, false] rfl rfl (take_ofW HT_.out HW_.out (by kernel_rfl)) (fun _ _ _ h => h) (Or.inl ⟨by rfl, ?_⟩) hHeld ?_ ?_
     rotate_left
     ·rintro w' ⟨s0, s1, s2⟩
      go_simp
      with_reducible rfl
     rotate_left
     ·simp only [Act.put, List.setIfInBounds_toArray, List.set_cons_zero, List.set_cons_succ, i64_w, i32_w]
      rfl
     refine take_ (i := 5) (N := some 27) (v := ?_) (a' := ?_) #[true, true, true, true, true, true, true, true, false, false, false, false] rfl rfl (take_ofW HT_.out HW_.out (by kernel_rfl)) (fun _ _ _ h => h) (Or.inl ⟨by rfl, ?_⟩) hHeld ?_ ?_
     rotate_left
     ·rintro w' ⟨s0, s1, s2⟩
      go_simp
      with_reducible rfl
     rotate_left
     ·simp only [Act.put, List.setIfInBounds_toArray, List.set_cons_zero, List.set_cons_succ, i64_w, i32_w]
      rfl
     refine take_ (i := 8) (N := some 30) (v := ?_) (a' := ?_) #[true, true, true, true, true, true, true, true, true, false, false, false] rfl rfl (take_ofW HT_.out HW_.out (by kernel_rfl)) (fun _ _ _ h => h) (Or.inl ⟨by rfl, ?_⟩) hHeld ?_ ?_
     rotate_left
     ·rintro w' ⟨s0, s1, s2⟩
      go_simp
      with_reducible rfl
     rotate_left
     ·simp only [Act.put, List.setIfInBounds_toArray, List.set_cons_zero, List.set_cons_succ, i64_w, i32_w]
      rfl
     refine pure_ (i := 9) (N := some 31) (v := ?_) (a' := ?_) #[true, true, true, true, true, true, true, true, true, true, false, false] rfl rfl (any_of HT_.out (by kernel_rfl)) (fun _ _ _ h => h) (Or.inl ⟨by rfl, ?_⟩) ?_ ?_
     rotate_left
     ·intro w'
      go_simp
      with_reducible rfl
     rotate_left
     ·simp only [Act.put, List.setIfInBounds_toArray, List.set_cons_zero, List.set_cons_succ, i64_w, i32_w]
      rfl
     refine one_ (i := 10) (N := some 8) #[true, true, true, true, true, true, true, true, true, true, true, false] rfl rfl (one_of HT_.out (by kernel_rfl)) (by decide) (fun K hK => ?_)
     refine box_step ?hg (N := 8) ?hd (cs := #[.int .i64 0, .int .i64 0, .int .i64 0, .int .i64 0, .slice none 0 0, .slice none 0 0]) (t := 26) ?hr ?_; (case hd => rfl); (case hg => rfl); (case hr => first | (go_simp; done) | (go_simp; rfl))
     intro gb238 hg w15 hbox hb
     have HS0_ := (hb.cell (World.block_lt_of_cell? _ _ (hHeld.1))).trans (hHeld.1)
     have HS1_ := (hb.cell (World.block_lt_of_cell? _ _ (hHeld.2.1))).trans (hHeld.2.1)
     have HS2_ := (hb.cell (World.block_lt_of_cell? _ _ (hHeld.2.2))).trans (hHeld.2.2)
     have HNE0_238 : (ad235 : Addr).block ≠ gb238 := (by rw [hg]; exact Nat.ne_of_lt (World.block_lt_of_cell? _ _ (hHeld.1)))
     have HNE1_238 : (⟨ad235.block, ad235.off + 2, none⟩ : Addr).block ≠ gb238 := (by rw [hg]; exact Nat.ne_of_lt (World.block_lt_of_cell? _ _ (hHeld.2.1)))
     have HNE2_238 : (⟨ad235.block, ad235.off + 3, none⟩ : Addr).block ≠ gb238 := (by rw [hg]; exact Nat.ne_of_lt (World.block_lt_of_cell? _ _ (hHeld.2.2)))
     have n0_ := Aside0.mk (Kd.R_below (Zz.r HO234.out) hb)
     have n1_ := Aside0.mk (Zz.bb BK228.out hb)
     have n2_ := Aside0.mk (Zz.bb BK229.out hb)
     have n3_ := Aside0.mk (below_step (Zz.i HB.out) hb)
     have n4_ := Aside0.mk (hbox)
     have n5_ := Aside0.mk (Zz.ge hg HB.out)
     have n6_ := Aside0.mk (Zz.ge hg HB.out)
     have n7_ := Aside0.mk (Zz.nl hg BK228.out)
     have n8_ := Aside0.mk (Zz.ng hg BK228.out)
     have n9_ := Aside0.mk (Zz.nl hg BK229.out)
     have n10_ := Aside0.mk (Zz.ng hg BK229.out)
     clear HO234
     clear BK228
     clear BK229
     clear HB
     have HO234 := n0_
     have BK228 := n1_
     have BK229 := n2_
     have HB := n3_
     have BK238 := n4_
     have GW238 := n5_
     have GE238 := n6_
     have NB228_238 := n7_
     have NB238_228 := n8_
     have NB229_238 := n9_
     have NB238_229 := n10_
     clear n0_ n1_ n2_ n3_ n4_ n5_ n6_ n7_ n8_ n9_ n10_
     clear hb hbox hg
     refine hK.out _ _ ⟨HS0_, HS1_, HS2_⟩ (fun hHeld => ?_)
     clear hK K
     refine norm_ (a' := ?_) ?_ ?_
     rotate_left
     ·show Act.put _ (some 8) _ = _
      simp only [Act.put, List.setIfInBounds_toArray, List.set_cons_zero, List.set_cons_succ, i64_w, i32_w]
      rfl
     refine one_ (i := 11) (N := none) #[true, true, true, true, true, true, true, true, true, true, true, true] rfl rfl (one_of HT_.out (by kernel_rfl)) (by decide) (fun K hK => ?_)
     have hs16 : w15.cell? ⟨gb238, 0, none⟩ = some (.int .i64 0) := (blk_cell BK238.out 0).trans rfl
     have hfs16 := blk_frozen BK238.out 0
     have hns16_0 := NB228_238.out
     have hns16_1 := NB229_238.out
     have hms16_0 := NB238_228.out
     have hms16_1 := NB238_229.out
     have hs17 : w15.cell? ⟨gb238, 1, none⟩ = some (.int .i64 0) := (blk_cell BK238.out 1).trans rfl
     have hfs17 := blk_frozen BK238.out 1
     have hns17_0 := NB228_238.out
     have hns17_1 := NB229_238.out
     have hms17_0 := NB238_228.out
     have hms17_1 := NB238_229.out
     have hs18 : w15.cell? ⟨gb238, 2, none⟩ = some (.int .i64 0) := (blk_cell BK238.out 2).trans rfl
     have hfs18 := blk_frozen BK238.out 2
     have hns18_0 := NB228_238.out
     have hns18_1 := NB229_238.out
     have hms18_0 := NB238_228.out
     have hms18_1 := NB238_229.out
     have hs19 : w15.cell? ⟨gb238, 3, none⟩ = some (.int .i64 0) := (blk_cell BK238.out 3).trans rfl
     have hfs19 := blk_frozen BK238.out 3
     have hns19_0 := NB228_238.out
     have hns19_1 := NB229_238.out
     have hms19_0 := NB238_228.out
     have hms19_1 := NB238_229.out
     have hs20 : w15.cell? ⟨gb238, 4, none⟩ = some (.slice none 0 0) := (blk_cell BK238.out 4).trans rfl
     have hfs20 := blk_frozen BK238.out 4
     have hns20_0 := NB228_238.out
     have hns20_1 := NB229_238.out
     have hms20_0 := NB238_228.out
     have hms20_1 := NB238_229.out
     have hs21 : w15.cell? ⟨gb238, 5, none⟩ = some (.slice none 0 0) := (blk_cell BK238.out 5).trans rfl
     have hfs21 := blk_frozen BK238.out 5
     have hns21_0 := NB228_238.out
     have hns21_1 := NB229_238.out
     have hms21_0 := NB238_228.out
     have hms21_1 := NB238_229.out
     refine skip_ (w1 := ?_) (by rfl) rfl ?_ ?_
     rotate_left
     ·go_simp
      rfl
     refine hK.out _ _ ⟨(wire_DecodeReply.far6 (g := gb238) (by first | exact HNE0_238 | exact Kd.own_blk (Kd.R_ne HO234.out BK238.out (by decide)) | (rw [add_block]; exact Kd.own_blk (Kd.R_ne HO234.out BK238.out (by decide))) | (show (Addr.add _ _).block ≠ _; rw [add_block]; exact Kd.own_blk (Kd.R_ne HO234.out BK238.out (by decide))) | (dsimp only; exact Kd.own_blk (Kd.R_ne HO234.out BK238.out (by decide)))) (hHeld.1)), (wire_DecodeReply.far6 (g := gb238) (by first | exact HNE1_238 | exact Kd.own_blk (Kd.R_ne HO234.out BK238.out (by decide)) | (rw [add_block]; exact Kd.own_blk (Kd.R_ne HO234.out BK238.out (by decide))) | (show (Addr.add _ _).block ≠ _; rw [add_block]; exact Kd.own_blk (Kd.R_ne HO234.out BK238.out (by decide))) | (dsimp only; exact Kd.own_blk (Kd.R_ne HO234.out BK238.out (by decide)))) (hHeld.2.1)), (wire_DecodeReply.far6 (g := gb238) (by first | exact HNE2_238 | exact Kd.own_blk (Kd.R_ne HO234.out BK238.out (by decide)) | (rw [add_block]; exact Kd.own_blk (Kd.R_ne HO234.out BK238.out (by decide))) | (show (Addr.add _ _).block ≠ _; rw [add_block]; exact Kd.own_blk (Kd.R_ne HO234.out BK238.out (by decide))) | (dsimp only; exact Kd.own_blk (Kd.R_ne HO234.out BK238.out (by decide)))) (hHeld.2.2))⟩ (fun hHeld => ?_)
     clear hK K
     refine done_ (done_of HT_.out (by kernel_rfl)) ?_
     go_upto_region 6 with (fail)
     go_cut [52] (fun v52 wc => ∃ (kq : Nat) (x52_6 : Bool), v52 = .bool x52_6 ∧ Aside0 (wire_DecodeReply.j0 kq t230 t231 x52_6 0 0 0 0 (rd t230 0) 0 (rd t230 2) (rd t230 3) = some (r1, r2, r3, r4, r5, r6, r7)) ∧ Aside0 (kq ≤ k) ∧ Aside0 (Kd.R (Kd.int .i64) 3 wc w.heap.size (fun _ => True) (.slice (some ad235) t230.length co14) t230) ∧ Aside0 (wc.heap[gb228]? = some (.cells #[.int .i64 0, .int .i64 0, .int .i64 0, .int .i64 0, (.slice none 0 0), (.slice none 0 0)] 26 (0, 0))) ∧ Aside0 (wc.heap[gb229]? = some (.cells #[.int .i64 0, .int .i64 0, .int .i64 0, .int .i64 0, (.slice none 0 0), (.slice none 0 0)] 26 (0, 0))) ∧ Aside0 (wc.heap[gb238]? = some (.cells #[.int .i64 (rd t230 0), .int .i64 0, .int .i64 (rd t230 2), .int .i64 (rd t230 3), (.slice none 0 0), (.slice none 0 0)] 26 (0, 0))) ∧ Aside0 (Below w.heap.size w wc))
     case first =>
      have H := HC7.out
      clear HC7
      obtain ⟨y239, hy239⟩ : ∃ y_ : List Int, y_ = (([rd t230 0, rd t230 2, rd t230 3] : List Int)) := ⟨_, rfl⟩
      replace H : ((wire_within.f y239).bind fun t242 => (if t242 = true then (if 1 < (t230.length : Int) then (if (rd t230 1) < 0 then (wire_DecodeReply.j0 k t230 t231 true 0 0 0 0 (rd t230 0) 0 (rd t230 2) (rd t230 3)) else (wire_DecodeReply.j0 k t230 t231 (decide ((rd t230 1) > 255)) 0 0 0 0 (rd t230 0) 0 (rd t230 2) (rd t230 3))) else (none)) else (wire_DecodeReply.j0 k t230 t231 true 0 0 0 0 (rd t230 0) 0 (rd t230 2) (rd t230 3)))) = some (r1, r2, r3, r4, r5, r6, r7) := by first | (rw [hy239]; with_reducible exact H) | (have H2_ := (Option.bind_some _ _).symm.trans H; rw [hy239]; with_reducible exact H2_) | (have H2_ := (Option.bind_some _ _).symm.trans H; with_reducible exact H2_) | with_reducible exact H | (rw [hy239]; exact H) | exact H
      have Ny239 := Aside0.mk hy239
      clear hy239
      replace H := Option.bind_eq_some_iff.mp H
      obtain ⟨t242, A220, H⟩ := H
      replace H : (if t242 = true then (if 1 < (t230.length : Int) then (if (rd t230 1) < 0 then (wire_DecodeReply.j0 k t230 t231 true 0 0 0 0 (rd t230 0) 0 (rd t230 2) (rd t230 3)) else (wire_DecodeReply.j0 k t230 t231 (decide ((rd t230 1) > 255)) 0 0 0 0 (rd t230 0) 0 (rd t230 2) (rd t230 3))) else (none)) else (wire_DecodeReply.j0 k t230 t231 true 0 0 0 0 (rd t230 0) 0 (rd t230 2) (rd t230 3))) = some (r1, r2, r3, r4, r5, r6, r7) := H
      have A22 := Aside0.mk A220
      clear A220
      by_cases c23 : t242 = true
      ·subst c23
       have H1 : (if 1 < (t230.length : Int) then (if (rd t230 1) < 0 then (wire_DecodeReply.j0 k t230 t231 true 0 0 0 0 (rd t230 0) 0 (rd t230 2) (rd t230 3)) else (wire_DecodeReply.j0 k t230 t231 (decide ((rd t230 1) > 255)) 0 0 0 0 (rd t230 0) 0 (rd t230 2) (rd t230 3))) else (none)) = some (r1, r2, r3, r4, r5, r6, r7) := by rw [if_pos rfl] at H; exact H
       clear H
       have H := H1
       clear H1
       by_cases c24 : 1 < (t230.length : Int)
       ·rw [if_pos c24] at H
        have c24b0 : decide (1 < (t230.length : Int)) = true := decide_eq_true c24
        have c24b1 : decide (1 < t230.length) = true := decide_eq_true (by omega)
        clear c24
        (first | rw [c24b0] | rw [c24b9] | (simp only [i64_w, i32_w]; rw [c24b0]) | skip)
        by_cases c25 : (rd t230 1) < 0
        ·rw [if_pos c25] at H
         have c25b0 : decide ((rd t230 1) < 0) = true := decide_eq_true c25
         clear c25
         have H' := Aside0.mk H
         clear H
         have hnb26 := NB238_228.out
         have hnc26 := NB228_238.out
         have hnb27 := NB238_229.out
         have hnc27 := NB229_238.out
         have hcz28 := Zz.c6 BK238.out
         have hfz28 := blk_frozen BK238.out
         go_wp2_with (first | ((with_reducible refine gate_dst (N := 38) rfl ?_); (try (refine gate_guard (by rfl) ?_; dsimp only)); refine Kd.R_lit (Kd.int .i64) _ 3 ?hg (N := 38) ?hd (xs := ([rd t230 0, rd t230 2, rd t230 3] : List Int)) (inner := [.int .i64 (rd t230 0), .int .i64 (rd t230 2), .int .i64 (rd t230 3)]) (ok := fun _ => True) (okp := fun _ => True) ?hr ?hp (fun _ hk => hk) trivial (Below.refl _ _) (Nat.le_refl _) (by simp) ?_; (case hd => rfl); (case hg => rfl); (case hr => first | (go_simp; done) | (go_simp; rfl)); (case hp => exact (Reps.one (show Kd.M (Kd.int .i64) _ _ _ (rd t230 0) [.int .i64 (rd t230 0)] from rfl) (Reps.one (show Kd.M (Kd.int .i64) _ _ _ (rd t230 2) [.int .i64 (rd t230 2)] from rfl) (Reps.one (show Kd.M (Kd.int .i64) _ _ _ (rd t230 3) [.int .i64 (rd t230 3)] from rfl) (Reps.none _ _))))); intro v240 w29 ho30 hb hg_ hnew_; clear hg_ hnew_; (first | rw [← Ny239.out] at ho30 | (simp only [Int.reduceToNat] at ho30; rw [← Ny239.out] at ho30)); have n0_ := Aside0.mk (Kd.R_elder' (by (with_reducible repeat (first | apply Kd.R_alloc | apply Kd.R_drewN | apply Kd.R_drew)); exact (Kd.R_mono (Zz.f6 (Kd.R_types HO234.out BK238.out (by decide)) (fun _ hk => hk.2)) (fun _ h_ => h_.1))) (Kd.R_base ho30) hb); have n1_ := Aside0.mk (Kd.R_lower (Kd.R_new' ho30 (Kd.R_lt (by (with_reducible repeat (first | apply Kd.R_alloc | apply Kd.R_drewN | apply Kd.R_drew)); exact (Kd.R_mono (Zz.f6 (Kd.R_types HO234.out BK238.out (by decide)) (fun _ hk => hk.2)) (fun _ h_ => h_.1))))) (below_size (Zz.i HB.out))); have n2_ := Aside0.mk (blk_below (g := gb228) (o := .cells #[.int .i64 0, .int .i64 0, .int .i64 0, .int .i64 0, .slice none 0 0, .slice none 0 0] 26 (0, 0)) (by exact Zz.q6 BK228.out NB228_238.out) hb); have n3_ := Aside0.mk (blk_below (g := gb229) (o := .cells #[.int .i64 0, .int .i64 0, .int .i64 0, .int .i64 0, .slice none 0 0, .slice none 0 0] 26 (0, 0)) (by exact Zz.q6 BK229.out NB229_238.out) hb); have n4_ := Aside0.mk (blk_below (g := gb238) (o := .cells #[.int .i64 (rd t230 0), .int .i64 0, .int .i64 (rd t230 2), .int .i64 (rd t230 3), .slice none 0 0, .slice none 0 0] 26 (0, 0)) (by (with_reducible repeat (first | refine blk_drewN ?_ _ | refine blk_drew ?_ | refine blk_alloc ?_ _)); exact Zz.u6_0_5 BK238.out) hb); have n5_ := Aside0.mk (below_step (Zz.i HB.out) hb); clear HO234; clear BK228; clear BK229; clear BK238; clear HB; have HO234 := n0_; have HO241 := n1_; have BK228 := n2_; have BK229 := n3_; have BK238 := n4_; have HB := n5_; clear n0_ n1_ n2_ n3_ n4_ n5_; clear hb ho30; obtain ⟨Ao31, co31, eo31⟩ := Kd.R_slice HO241.out; subst eo31) | ((with_reducible refine gate_callee (f := 21) rfl ?_); refine goesL_ (some 39) rfl rfl Try.func21 (by kernel_rfl) rfl #[.slice Ao31 y239.length co31] rfl Zz.g ?_; (with_reducible refine (wire_within.calls _ _ y239 true _ ?side1 ?side2 A22.out).mono ?_); (case side1 => repeat (first | exact (Kd.R_reads' HO241.out).2.2 | (with_reducible refine Kd.C_alloc ?_ _) | (with_reducible refine Kd.C_drewN ?_ _) | (with_reducible refine Kd.C_drew ?_))); (case side2 => exact (Kd.R_reads' HO241.out).2.1); rintro e w' ⟨rfl, ⟨nd, rfl⟩⟩; refine ⟨_, rfl, ?_⟩; have p243 : 0 ≤ (1 : Int) := (by omega); have q243 : 1 < (t230.length : Int) := of_decide_eq_true (by first | (with_reducible assumption) | assumption); obtain ⟨ad243, e243, hx243_0⟩ := Kd.at_int (Kd.R_reads' HO234.out).2.2 1 p243 q243; obtain rfl : ad235 = ad243 := (by injection e243); (try simp only [show (1 : Int).toNat = 1 from rfl, Nat.reduceMul, Nat.reduceEqDiff, Go.Addr.add, ↓reduceIte] at hx243_0); have qi243 : (1 < t230.length) = True := eq_true (by omega); (try rw [show ((1 : Int)).toNat = 1 from rfl] at hx243_0); replace p243 := eq_true p243; replace q243 := eq_true q243))
         go_meet
         case rel => exact ⟨_, (true), Zz.q, H', ⟨by first | omega | exact Nat.le_refl _⟩, ⟨Zz.rt HO234.out⟩, ⟨Zz.p BK228.out⟩, ⟨Zz.p BK229.out⟩, ⟨Zz.p BK238.out⟩, ⟨by repeat (first | (with_reducible first | exact HB.out | apply below_alloc | apply pw_below_drewN | apply below_drew1 | refine below_set ?_ GE228.out | refine below_set ?_ GE229.out | refine below_set ?_ GE238.out) | exact HB.out)⟩⟩
        rw [if_neg c25] at H
        have c25b0 : decide ((rd t230 1) < 0) = false := decide_eq_false c25
        clear c25
        have H' := Aside0.mk H
        clear H
        have hnb32 := NB238_228.out
        have hnc32 := NB228_238.out
        have hnb33 := NB238_229.out
        have hnc33 := NB229_238.out
        have hcz34 := Zz.c6 BK238.out
        have hfz34 := blk_frozen BK238.out
        go_wp2_with (first | ((with_reducible refine gate_dst (N := 38) rfl ?_); (try (refine gate_guard (by rfl) ?_; dsimp only)); refine Kd.R_lit (Kd.int .i64) _ 3 ?hg (N := 38) ?hd (xs := ([rd t230 0, rd t230 2, rd t230 3] : List Int)) (inner := [.int .i64 (rd t230 0), .int .i64 (rd t230 2), .int .i64 (rd t230 3)]) (ok := fun _ => True) (okp := fun _ => True) ?hr ?hp (fun _ hk => hk) trivial (Below.refl _ _) (Nat.le_refl _) (by simp) ?_; (case hd => rfl); (case hg => rfl); (case hr => first | (go_simp; done) | (go_simp; rfl)); (case hp => exact (Reps.one (show Kd.M (Kd.int .i64) _ _ _ (rd t230 0) [.int .i64 (rd t230 0)] from rfl) (Reps.one (show Kd.M (Kd.int .i64) _ _ _ (rd t230 2) [.int .i64 (rd t230 2)] from rfl) (Reps.one (show Kd.M (Kd.int .i64) _ _ _ (rd t230 3) [.int .i64 (rd t230 3)] from rfl) (Reps.none _ _))))); intro v240 w35 ho36 hb hg_ hnew_; clear hg_ hnew_; (first | rw [← Ny239.out] at ho36 | (simp only [Int.reduceToNat] at ho36; rw [← Ny239.out] at ho36)); have n0_ := Aside0.mk (Kd.R_elder' (by (with_reducible repeat (first | apply Kd.R_alloc | apply Kd.R_drewN | apply Kd.R_drew)); exact (Kd.R_mono (Zz.f6 (Kd.R_types HO234.out BK238.out (by decide)) (fun _ hk => hk.2)) (fun _ h_ => h_.1))) (Kd.R_base ho36) hb); have n1_ := Aside0.mk (Kd.R_lower (Kd.R_new' ho36 (Kd.R_lt (by (with_reducible repeat (first | apply Kd.R_alloc | apply Kd.R_drewN | apply Kd.R_drew)); exact (Kd.R_mono (Zz.f6 (Kd.R_types HO234.out BK238.out (by decide)) (fun _ hk => hk.2)) (fun _ h_ => h_.1))))) (below_size (Zz.i HB.out))); have n2_ := Aside0.mk (blk_below (g := gb228) (o := .cells #[.int .i64 0, .int .i64 0, .int .i64 0, .int .i64 0, .slice none 0 0, .slice none 0 0] 26 (0, 0)) (by exact Zz.q6 BK228.out NB228_238.out) hb); have n3_ := Aside0.mk (blk_below (g := gb229) (o := .cells #[.int .i64 0, .int .i64 0, .int .i64 0, .int .i64 0, .slice none 0 0, .slice none 0 0] 26 (0, 0)) (by exact Zz.q6 BK229.out NB229_238.out) hb); have n4_ := Aside0.mk (blk_below (g := gb238) (o := .cells #[.int .i64 (rd t230 0), .int .i64 0, .int .i64 (rd t230 2), .int .i64 (rd t230 3), .slice none 0 0, .slice none 0 0] 26 (0, 0)) (by (with_reducible repeat (first | refine blk_drewN ?_ _ | refine blk_drew ?_ | refine blk_alloc ?_ _)); exact Zz.u6_0_5 BK238.out) hb); have n5_ := Aside0.mk (below_step (Zz.i HB.out) hb); clear HO234; clear BK228; clear BK229; clear BK238; clear HB; have HO234 := n0_; have HO241 := n1_; have BK228 := n2_; have BK229 := n3_; have BK238 := n4_; have HB := n5_; clear n0_ n1_ n2_ n3_ n4_ n5_; clear hb ho36; obtain ⟨Ao37, co37, eo37⟩ := Kd.R_slice HO241.out; subst eo37) | ((with_reducible refine gate_callee (f := 21) rfl ?_); refine goesL_ (some 39) rfl rfl Try.func21 (by kernel_rfl) rfl #[.slice Ao37 y239.length co37] rfl Zz.g ?_; (with_reducible refine (wire_within.calls _ _ y239 true _ ?side1 ?side2 A22.out).mono ?_); (case side1 => repeat (first | exact (Kd.R_reads' HO241.out).2.2 | (with_reducible refine Kd.C_alloc ?_ _) | (with_reducible refine Kd.C_drewN ?_ _) | (with_reducible refine Kd.C_drew ?_))); (case side2 => exact (Kd.R_reads' HO241.out).2.1); rintro e w' ⟨rfl, ⟨nd, rfl⟩⟩; refine ⟨_, rfl, ?_⟩; have p243 : 0 ≤ (1 : Int) := (by omega); have q243 : 1 < (t230.length : Int) := of_decide_eq_true (by first | (with_reducible assumption) | assumption); obtain ⟨ad243, e243, hx243_0⟩ := Kd.at_int (Kd.R_reads' HO234.out).2.2 1 p243 q243; obtain rfl : ad235 = ad243 := (by injection e243); (try simp only [show (1 : Int).toNat = 1 from rfl, Nat.reduceMul, Nat.reduceEqDiff, Go.Addr.add, ↓reduceIte] at hx243_0); have qi243 : (1 < t230.length) = True := eq_true (by omega); (try rw [show ((1 : Int)).toNat = 1 from rfl] at hx243_0); replace p243 := eq_true p243; replace q243 := eq_true q243; have p244 : 0 ≤ (1 : Int) := (by omega); have q244 : 1 < (t230.length : Int) := of_decide_eq_true (by first | (with_reducible assumption) | assumption); obtain ⟨ad244, e244, hx244_0⟩ := Kd.at_int (Kd.R_reads' HO234.out).2.2 1 p244 q244; obtain rfl : ad235 = ad244 := (by injection e244); (try simp only [show (1 : Int).toNat = 1 from rfl, Nat.reduceMul, Nat.reduceEqDiff, Go.Addr.add, ↓reduceIte] at hx244_0); have qi244 : (1 < t230.length) = True := eq_true (by omega); (try rw [show ((1 : Int)).toNat = 1 from rfl] at hx244_0); replace p244 := eq_true p244; replace q244 := eq_true q244))
        go_meet
        case rel => exact ⟨_, (decide ((rd t230 1) > 255)), Zz.q, H', ⟨by first | omega | exact Nat.le_refl _⟩, ⟨Zz.rt HO234.out⟩, ⟨Zz.p BK228.out⟩, ⟨Zz.p BK229.out⟩, ⟨Zz.p BK238.out⟩, ⟨by repeat (first | (with_reducible first | exact HB.out | apply below_alloc | apply pw_below_drewN | apply below_drew1 | refine below_set ?_ GE228.out | refine below_set ?_ GE229.out | refine below_set ?_ GE238.out) | exact HB.out)⟩⟩
       rw [if_neg c24] at H
       exact absurd H (by simp)
      replace c23 := Bool.eq_false_iff.mpr c23
      subst c23
      have H1 : (wire_DecodeReply.j0 k t230 t231 true 0 0 0 0 (rd t230 0) 0 (rd t230 2) (rd t230 3)) = some (r1, r2, r3, r4, r5, r6, r7) := by rw [if_neg (show ¬ (false = true) by decide)] at H; exact H
      clear H
      have H := H1
      clear H1
      have H' := Aside0.mk H
      clear H
      have hnb38 := NB238_228.out
      have hnc38 := NB228_238.out
      have hnb39 := NB238_229.out
      have hnc39 := NB229_238.out
      have hcz40 := Zz.c6 BK238.out
      have hfz40 := blk_frozen BK238.out
      go_wp2_with (first | ((with_reducible refine gate_dst (N := 38) rfl ?_); (try (refine gate_guard (by rfl) ?_; dsimp only)); refine Kd.R_lit (Kd.int .i64) _ 3 ?hg (N := 38) ?hd (xs := ([rd t230 0, rd t230 2, rd t230 3] : List Int)) (inner := [.int .i64 (rd t230 0), .int .i64 (rd t230 2), .int .i64 (rd t230 3)]) (ok := fun _ => True) (okp := fun _ => True) ?hr ?hp (fun _ hk => hk) trivial (Below.refl _ _) (Nat.le_refl _) (by simp) ?_; (case hd => rfl); (case hg => rfl); (case hr => first | (go_simp; done) | (go_simp; rfl)); (case hp => exact (Reps.one (show Kd.M (Kd.int .i64) _ _ _ (rd t230 0) [.int .i64 (rd t230 0)] from rfl) (Reps.one (show Kd.M (Kd.int .i64) _ _ _ (rd t230 2) [.int .i64 (rd t230 2)] from rfl) (Reps.one (show Kd.M (Kd.int .i64) _ _ _ (rd t230 3) [.int .i64 (rd t230 3)] from rfl) (Reps.none _ _))))); intro v240 w41 ho42 hb hg_ hnew_; clear hg_ hnew_; (first | rw [← Ny239.out] at ho42 | (simp only [Int.reduceToNat] at ho42; rw [← Ny239.out] at ho42)); have n0_ := Aside0.mk (Kd.R_elder' (by (with_reducible repeat (first | apply Kd.R_alloc | apply Kd.R_drewN | apply Kd.R_drew)); exact (Kd.R_mono (Zz.f6 (Kd.R_types HO234.out BK238.out (by decide)) (fun _ hk => hk.2)) (fun _ h_ => h_.1))) (Kd.R_base ho42) hb); have n1_ := Aside0.mk (Kd.R_lower (Kd.R_new' ho42 (Kd.R_lt (by (with_reducible repeat (first | apply Kd.R_alloc | apply Kd.R_drewN | apply Kd.R_drew)); exact (Kd.R_mono (Zz.f6 (Kd.R_types HO234.out BK238.out (by decide)) (fun _ hk => hk.2)) (fun _ h_ => h_.1))))) (below_size (Zz.i HB.out))); have n2_ := Aside0.mk (blk_below (g := gb228) (o := .cells #[.int .i64 0, .int .i64 0, .int .i64 0, .int .i64 0, .slice none 0 0, .slice none 0 0] 26 (0, 0)) (by exact Zz.q6 BK228.out NB228_238.out) hb); have n3_ := Aside0.mk (blk_below (g := gb229) (o := .cells #[.int .i64 0, .int .i64 0, .int .i64 0, .int .i64 0, .slice none 0 0, .slice none 0 0] 26 (0, 0)) (by exact Zz.q6 BK229.out NB229_238.out) hb); have n4_ := Aside0.mk (blk_below (g := gb238) (o := .cells #[.int .i64 (rd t230 0), .int .i64 0, .int .i64 (rd t230 2), .int .i64 (rd t230 3), .slice none 0 0, .slice none 0 0] 26 (0, 0)) (by (with_reducible repeat (first | refine blk_drewN ?_ _ | refine blk_drew ?_ | refine blk_alloc ?_ _)); exact Zz.u6_0_5 BK238.out) hb); have n5_ := Aside0.mk (below_step (Zz.i HB.out) hb); clear HO234; clear BK228; clear BK229; clear BK238; clear HB; have HO234 := n0_; have HO241 := n1_; have BK228 := n2_; have BK229 := n3_; have BK238 := n4_; have HB := n5_; clear n0_ n1_ n2_ n3_ n4_ n5_; clear hb ho42; obtain ⟨Ao43, co43, eo43⟩ := Kd.R_slice HO241.out; subst eo43) | ((with_reducible refine gate_callee (f := 21) rfl ?_); refine goesL_ (some 39) rfl rfl Try.func21 (by kernel_rfl) rfl #[.slice Ao43 y239.length co43] rfl Zz.g ?_; (with_reducible refine (wire_within.calls _ _ y239 false _ ?side1 ?side2 A22.out).mono ?_); (case side1 => repeat (first | exact (Kd.R_reads' HO241.out).2.2 | (with_reducible refine Kd.C_alloc ?_ _) | (with_reducible refine Kd.C_drewN ?_ _) | (with_reducible refine Kd.C_drew ?_))); (case side2 => exact (Kd.R_reads' HO241.out).2.1); rintro e w' ⟨rfl, ⟨nd, rfl⟩⟩; refine ⟨_, rfl, ?_⟩))
      go_meet
      case rel => exact ⟨_, (true), Zz.q, H', ⟨by first | omega | exact Nat.le_refl _⟩, ⟨Zz.rt HO234.out⟩, ⟨Zz.p BK228.out⟩, ⟨Zz.p BK229.out⟩, ⟨Zz.p BK238.out⟩, ⟨by repeat (first | (with_reducible first | exact HB.out | apply below_alloc | apply pw_below_drewN | apply below_drew1 | refine below_set ?_ GE228.out | refine below_set ?_ GE229.out | refine below_set ?_ GE238.out) | exact HB.out)⟩⟩
     clear HC7
     (try clear c1);(try clear c2);(try clear p2);(try clear q2);(try clear hx2);(try clear qi2);(try clear c3);(try clear c3b0);(try clear c3b1);(try clear c4);(try clear c4b0);(try clear c4b1);(try clear c5);(try clear c5b0);(try clear c5b1);(try clear c6);(try clear c6b0);(try clear c6b1);(try clear c10);(try clear c12);(try clear c21);(try clear c23);(try clear p23);(try clear q23);(try clear hx23);(try clear qi23);(try clear c24);(try clear c24b0);(try clear c24b1);(try clear p24);(try clear q24);(try clear hx24);(try clear qi24);(try clear c25);(try clear c25b0);(try clear c26);(try clear c27);(try clear c32);(try clear c33);(try clear c38);(try clear c39);(try clear hcz11);(try clear hcz28);(try clear hcz34);(try clear hcz40);(try clear hfz11);(try clear hfz28);(try clear hfz34);(try clear hfz40);(try clear hx235_0);(try clear hx236_0);(try clear hx237_0);(try clear hx243_0);(try clear hx244_0);(try clear p235);(try clear p236);(try clear p237);(try clear p243);(try clear p244);(try clear q235);(try clear q236);(try clear q237);(try clear q243);(try clear q244)
     obtain ⟨kq, x52_6, rfl, HA, HJ6, HO_5, BK228, BK229, BK238, HB⟩ := hcut
     cases kq with
     | zero => exact absurd HA.out (by simp [wire_DecodeReply.j0])
     | succ kj6 =>
      have H := HA.out
      clear HA
      simp only [wire_DecodeReply.j0] at H
      by_cases c44 : x52_6 = true
      ·subst c44
       have H1 : (some (0, 0, 0, 0, ([] : List Int), ([] : List (S59)), 2)) = some (r1, r2, r3, r4, r5, r6, r7) := by rw [if_pos rfl] at H; exact H
       clear H
       have H := H1
       clear H1
       simp only [Option.some.injEq, Prod.mk.injEq] at H
       obtain ⟨rfl, rfl, rfl, rfl, rfl, rfl, rfl⟩ := H
       have hnb45 := NB229_228.out
       have hnc45 := NB228_229.out
       have hnb46 := NB229_238.out
       have hnc46 := NB238_229.out
       have hcz47 := Zz.c6 BK229.out
       have hfz47 := blk_frozen BK229.out
       have hnb48 := NB228_238.out
       have hnc48 := NB238_228.out
       have hcz49 := Zz.c6 BK228.out
       have hfz49 := blk_frozen BK228.out
       go_wp2
       refine bodyPost_ret (results_ct rfl _ _ gb228 26 #[.int .i64 0, .int .i64 0, .int .i64 0, .int .i64 0, .slice none 0 0, .slice none 0 0] (0, 0) _ rfl (by (with_reducible repeat (first | refine blk_drewN ?_ _ | refine blk_drew ?_ | refine blk_alloc ?_ _)); exact Zz.u6_0_5 BK228.out) Try.underlying26 rfl (by kernel_rfl)) rfl ?_
       exact ⟨_, _, by first | rfl | (simp [errW_none, errW_some] <;> rfl) | (simp [*, errW_none, errW_some] <;> rfl), by first | exact Kd.R_nil _ _ _ _ _ | exact Kd.N_nil _ _ _ _ _ | exact Kd.V_nil _ _ _ _ _ | exact Kd.Q_nil _ _ _ _ _ | exact Kd.S_nil _ _ _ _ _, by first | exact Kd.R_nil _ _ _ _ _ | exact Kd.N_nil _ _ _ _ _ | exact Kd.V_nil _ _ _ _ _ | exact Kd.Q_nil _ _ _ _ _ | exact Kd.S_nil _ _ _ _ _, by repeat (first | (with_reducible first | exact HB.out | apply below_alloc | apply pw_below_drewN | apply below_drew1 | refine below_set ?_ GE228.out | refine below_set ?_ GE229.out | refine below_set ?_ GE238.out) | exact HB.out)⟩
      replace c44 := Bool.eq_false_iff.mpr c44
      subst c44
      have H1 : (if 1 < (t230.length : Int) then (if 4 < (t230.length : Int) then ((varint_TakeAll.f kj6 t231 (rd t230 4)).bind fun bt247 => (if bt247.2.2 = 0 then ((wire_within.f bt247.1).bind fun t252 => (wire_DecodeReply.j1 kj6 bt247.2.1 (!t252) 0 0 0 0 (rd t230 0) (rd t230 1) (rd t230 2) (rd t230 3) bt247.1)) else (wire_DecodeReply.j1 kj6 bt247.2.1 true 0 0 0 0 (rd t230 0) (rd t230 1) (rd t230 2) (rd t230 3) bt247.1))) else (none)) else (none)) = some (r1, r2, r3, r4, r5, r6, r7) := by rw [if_neg (show ¬ (false = true) by decide)] at H; exact H
      clear H
      have H := H1
      clear H1
      by_cases c50 : 1 < (t230.length : Int)
      ·rw [if_pos c50] at H
       have c50b0 : decide (1 < (t230.length : Int)) = true := decide_eq_true c50
       have c50b1 : decide (1 < t230.length) = true := decide_eq_true (by omega)
       clear c50
       by_cases c51 : 4 < (t230.length : Int)
       ·rw [if_pos c51] at H
        have c51b0 : decide (4 < (t230.length : Int)) = true := decide_eq_true c51
        have c51b1 : decide (4 < t230.length) = true := decide_eq_true (by omega)
        clear c51
        replace H := Option.bind_eq_some_iff.mp H
        obtain ⟨⟨t247, t248, t249⟩, A520, H⟩ := H
        replace H : (if t249 = 0 then ((wire_within.f t247).bind fun t252 => (wire_DecodeReply.j1 kj6 t248 (!t252) 0 0 0 0 (rd t230 0) (rd t230 1) (rd t230 2) (rd t230 3) t247)) else (wire_DecodeReply.j1 kj6 t248 true 0 0 0 0 (rd t230 0) (rd t230 1) (rd t230 2) (rd t230 3) t247)) = some (r1, r2, r3, r4, r5, r6, r7) := H
        have A52 := Aside0.mk A520
        clear A520
        have HC53 := Aside0.mk H
        clear H
        have p245 : 0 ≤ (1 : Int) := (by omega)
        have q245 : 1 < (t230.length : Int) := of_decide_eq_true (by first | (with_reducible assumption) | assumption)
        obtain ⟨ad245, e245, hx245_0⟩ := Kd.at_int (Kd.R_reads' HO_5.out).2.2 1 p245 q245
        obtain rfl : ad235 = ad245 := (by injection e245)
        (try simp only [show (1 : Int).toNat = 1 from rfl, Nat.reduceMul, Nat.reduceEqDiff, Go.Addr.add, ↓reduceIte] at hx245_0)
        have qi245 : (1 < t230.length) = True := eq_true (by omega)
        (try rw [show ((1 : Int)).toNat = 1 from rfl] at hx245_0)
        replace p245 := eq_true p245
        replace q245 := eq_true q245
        have hnb54 := NB238_228.out
        have hnc54 := NB228_238.out
        have hnb55 := NB238_229.out
        have hnc55 := NB229_238.out
        have hcz56 := Zz.c6 BK238.out
        have hfz56 := blk_frozen BK238.out
        have p246 : 0 ≤ (4 : Int) := (by omega)
        have q246 : 4 < (t230.length : Int) := of_decide_eq_true (by first | (with_reducible assumption) | assumption)
        obtain ⟨ad246, e246, hx246_0⟩ := Kd.at_int (Kd.R_reads' HO_5.out).2.2 4 p246 q246
        obtain rfl : ad235 = ad246 := (by injection e246)
        (try simp only [show (4 : Int).toNat = 4 from rfl, Nat.reduceMul, Nat.reduceEqDiff, Go.Addr.add, ↓reduceIte] at hx246_0)
        have qi246 : (4 < t230.length) = True := eq_true (by omega)
        (try rw [show ((4 : Int)).toNat = 4 from rfl] at hx246_0)
        have hn246_0 : ad235.block ≠ gb238 := Kd.own_blk (Kd.R_ne HO_5.out BK238.out (by decide))
        replace hx246_0 := (cell_far (p := ⟨gb238, 1, none⟩) (by first | (rw [add_block]; exact hn246_0) | (show (Addr.add _ _).block ≠ _; rw [add_block]; exact hn246_0) | exact hn246_0) (.int .i64 (rd t230 1))).trans hx246_0
        clear hn246_0
        replace p246 := eq_true p246
        replace q246 := eq_true q246
        go_upto_region 10 with (first | ((with_reducible refine gate_callee (f := 32) rfl ?_); refine goesL_ (some 63) rfl rfl Try.func32 (by kernel_rfl) rfl #[.string t231, .int .i64 (rd t230 4)] rfl Zz.g ?_; (with_reducible refine (varint_TakeAll.calls kj6 t231 (rd t230 4) t247 t248 t249 _ A52.out).mono ?_); rintro e w57 ⟨v250, rfl, ho0, hb⟩; refine ⟨_, rfl, ?_⟩; have n0_ := Aside0.mk (Kd.R_elder' (by (with_reducible repeat (first | apply Kd.R_alloc | apply Kd.R_drewN | apply Kd.R_drew)); exact (Kd.R_mono (Kd.R_far (p := ⟨gb238, 1, none⟩) (Kd.R_types HO_5.out BK238.out (by decide)) (fun _ hk => hk.2) (.int .i64 (rd t230 1))) (fun _ h_ => h_.1))) (Kd.R_base ho0) hb); have n1_ := Aside0.mk (Kd.R_lower (Kd.R_new' ho0 (Kd.R_lt (by (with_reducible repeat (first | apply Kd.R_alloc | apply Kd.R_drewN | apply Kd.R_drew)); exact (Kd.R_mono (Kd.R_far (p := ⟨gb238, 1, none⟩) (Kd.R_types HO_5.out BK238.out (by decide)) (fun _ hk => hk.2) (.int .i64 (rd t230 1))) (fun _ h_ => h_.1))))) (below_size (Zz.i HB.out))); have n2_ := Aside0.mk (Zz.b1 BK228.out NB228_238.out hb); have n3_ := Aside0.mk (Zz.b1 BK229.out NB229_238.out hb); have n4_ := Aside0.mk (blk_below (g := gb238) (o := .cells #[.int .i64 (rd t230 0), .int .i64 (rd t230 1), .int .i64 (rd t230 2), .int .i64 (rd t230 3), .slice none 0 0, .slice none 0 0] 26 (0, 0)) (by (with_reducible repeat (first | refine blk_drewN ?_ _ | refine blk_drew ?_ | refine blk_alloc ?_ _)); refine blk_put (cs := #[.int .i64 (rd t230 0), .int .i64 0, .int .i64 (rd t230 2), .int .i64 (rd t230 3), .slice none 0 0, .slice none 0 0]) ?_ 1 _ rfl; (with_reducible repeat (first | refine blk_drewN ?_ _ | refine blk_drew ?_ | refine blk_alloc ?_ _)); exact BK238.out) hb); have n5_ := Aside0.mk (below_step (Zz.i HB.out) hb); clear HO_5; clear BK228; clear BK229; clear BK238; clear HB; have HO_5 := n0_; have HO251 := n1_; have BK228 := n2_; have BK229 := n3_; have BK238 := n4_; have HB := n5_; clear n0_ n1_ n2_ n3_ n4_ n5_; (try clear hb); (try clear hk); (try clear ho0); obtain ⟨Ao58, co58, eo58⟩ := Kd.R_slice HO251.out; subst eo58; have hcz59 := Zz.c6 BK238.out; have hfz59 := blk_frozen BK238.out))
        (try simp only [Act.put, List.setIfInBounds_toArray, List.set_cons_zero, List.set_cons_succ])
        go_cut [75] (fun v75 wc => ∃ (kq : Nat) (x75_52 : Bool), v75 = .bool x75_52 ∧ Aside0 (wire_DecodeReply.j1 kq t248 x75_52 0 0 0 0 (rd t230 0) (rd t230 1) (rd t230 2) (rd t230 3) t247 = some (r1, r2, r3, r4, r5, r6, r7)) ∧ Aside0 (kq ≤ kj6) ∧ Aside0 (Kd.R (Kd.int .i64) 3 wc w.heap.size (fun _ => True) (.slice Ao58 t247.length co58) t247) ∧ Aside0 (wc.heap[gb228]? = some (.cells #[.int .i64 0, .int .i64 0, .int .i64 0, .int .i64 0, (.slice none 0 0), (.slice none 0 0)] 26 (0, 0))) ∧ Aside0 (wc.heap[gb229]? = some (.cells #[.int .i64 0, .int .i64 0, .int .i64 0, .int .i64 0, (.slice none 0 0), (.slice none 0 0)] 26 (0, 0))) ∧ Aside0 (wc.heap[gb238]? = some (.cells #[.int .i64 (rd t230 0), .int .i64 (rd t230 1), .int .i64 (rd t230 2), .int .i64 (rd t230 3), (.slice Ao58 t247.length co58), (.slice none 0 0)] 26 (0, 0))) ∧ Aside0 (Below w.heap.size w wc))
        case first =>
         have H := HC53.out
         clear HC53
         by_cases c60 : t249 = 0
         ·rw [if_pos c60] at H
          have c60b0 : (t249 == 0) = true := beq_iff_eq.mpr c60
          have c60b1 : (t249 != 0) = false := bne_eq_false_iff_eq.mpr c60
          clear c60
          (first | rw [c60b0] | rw [c60b9] | (simp only [i64_w, i32_w]; rw [c60b0]) | skip)
          replace H := Option.bind_eq_some_iff.mp H
          obtain ⟨t252, A610, H⟩ := H
          replace H : (wire_DecodeReply.j1 kj6 t248 (!t252) 0 0 0 0 (rd t230 0) (rd t230 1) (rd t230 2) (rd t230 3) t247) = some (r1, r2, r3, r4, r5, r6, r7) := H
          have A61 := Aside0.mk A610
          clear A610
          have H' := Aside0.mk H
          clear H
          have hnb62 := NB238_228.out
          have hnc62 := NB228_238.out
          have hnb63 := NB238_229.out
          have hnc63 := NB229_238.out
          have hcz64 := Zz.c6 BK238.out
          have hfz64 := blk_frozen BK238.out
          go_wp2_with (first | (go_at_call 21; (with_reducible refine (wire_within.calls _ _ t247 t252 _ ?side1 ?side2 A61.out).mono ?_); (case side1 => refine (Kd.R_reads' (e := 3) (base := w.heap.size) (ok := fun k_ => (True ∧ some k_ ≠ (.slice (some ad235) t230.length co14 : Value).ownBlock)) (n := t247.length) (c := co58) ?_).2.2; exact (by (with_reducible repeat (first | apply Kd.R_alloc | apply Kd.R_drewN | apply Kd.R_drew)); exact (Kd.R_mono (Kd.R_far (p := ⟨gb238, 4, none⟩) (Kd.R_types HO251.out BK238.out (by decide)) (fun _ hk => hk.2) (.slice Ao58 t247.length co58)) (fun _ h_ => h_.1)))); (case side2 => exact (Kd.R_reads' HO251.out).2.1); rintro e w' ⟨rfl, ⟨nd, rfl⟩⟩))
          go_meet
          case rel => exact ⟨_, (!t252), Zz.q, H', ⟨by have := HJ6.out; first | omega | exact Nat.le_refl _⟩, ⟨by (with_reducible repeat (first | apply Kd.R_alloc | apply Kd.R_drewN | apply Kd.R_drew)); exact Kd.R_mono (Kd.R_far (p := ⟨gb238, 4, none⟩) (Kd.R_types HO251.out BK238.out (by decide)) (fun _ hk => hk.2) (.slice Ao58 t247.length co58)) (fun _ hk => trivial)⟩, ⟨Zz.p1 BK228.out NB228_238.out⟩, ⟨Zz.p1 BK229.out NB229_238.out⟩, ⟨by (with_reducible repeat (first | refine blk_drewN ?_ _ | refine blk_drew ?_ | refine blk_alloc ?_ _)); refine blk_put (cs := #[.int .i64 (rd t230 0), .int .i64 (rd t230 1), .int .i64 (rd t230 2), .int .i64 (rd t230 3), .slice none 0 0, .slice none 0 0]) ?_ 4 _ rfl; (with_reducible repeat (first | refine blk_drewN ?_ _ | refine blk_drew ?_ | refine blk_alloc ?_ _)); exact BK238.out⟩, ⟨by repeat (first | (with_reducible first | exact HB.out | apply below_alloc | apply pw_below_drewN | apply below_drew1 | refine below_set ?_ GE228.out | refine below_set ?_ GE229.out | refine below_set ?_ GE238.out) | exact HB.out)⟩⟩
         rw [if_neg c60] at H
         have c60b0 : (t249 == 0) = false := beq_eq_false_iff_ne.mpr c60
         have c60b1 : (t249 != 0) = true := bne_iff_ne.mpr c60
         (first | rw [c60b0] | rw [c60b9] | (simp only [i64_w, i32_w]; rw [c60b0]) | skip)
         have H' := Aside0.mk H
         clear H
         go_wp2
         go_meet
         case rel => exact ⟨_, (true), Zz.q, H', ⟨by have := HJ6.out; first | omega | exact Nat.le_refl _⟩, ⟨by (with_reducible repeat (first | apply Kd.R_alloc | apply Kd.R_drewN | apply Kd.R_drew)); exact Kd.R_mono (Kd.R_far (p := ⟨gb238, 4, none⟩) (Kd.R_types HO251.out BK238.out (by decide)) (fun _ hk => hk.2) (.slice Ao58 t247.length co58)) (fun _ hk => trivial)⟩, ⟨Zz.p1 BK228.out NB228_238.out⟩, ⟨Zz.p1 BK229.out NB229_238.out⟩, ⟨by (with_reducible repeat (first | refine blk_drewN ?_ _ | refine blk_drew ?_ | refine blk_alloc ?_ _)); refine blk_put (cs := #[.int .i64 (rd t230 0), .int .i64 (rd t230 1), .int .i64 (rd t230 2), .int .i64 (rd t230 3), .slice none 0 0, .slice none 0 0]) ?_ 4 _ rfl; (with_reducible repeat (first | refine blk_drewN ?_ _ | refine blk_drew ?_ | refine blk_alloc ?_ _)); exact BK238.out⟩, ⟨by repeat (first | (with_reducible first | exact HB.out | apply below_alloc | apply pw_below_drewN | apply below_drew1 | refine below_set ?_ GE228.out | refine below_set ?_ GE229.out | refine below_set ?_ GE238.out) | exact HB.out)⟩⟩
        clear HC53
        (try clear c1);(try clear c2);(try clear p2);(try clear q2);(try clear hx2);(try clear qi2);(try clear c3);(try clear c3b0);(try clear c3b1);(try clear c4);(try clear c4b0);(try clear c4b1);(try clear c5);(try clear c5b0);(try clear c5b1);(try clear c6);(try clear c6b0);(try clear c6b1);(try clear c10);(try clear c12);(try clear c21);(try clear c23);(try clear p23);(try clear q23);(try clear hx23);(try clear qi23);(try clear c24);(try clear c24b0);(try clear c24b1);(try clear p24);(try clear q24);(try clear hx24);(try clear qi24);(try clear c25);(try clear c25b0);(try clear c26);(try clear c27);(try clear c32);(try clear c33);(try clear c38);(try clear c39);(try clear c44);(try clear c45);(try clear c46);(try clear c48);(try clear c50);(try clear c50b0);(try clear c50b1);(try clear c51);(try clear c51b0);(try clear c51b1);(try clear c54);(try clear c55);(try clear c60);(try clear c60b0);(try clear c60b1);(try clear c62);(try clear c63);(try clear hcz11);(try clear hcz28);(try clear hcz34);(try clear hcz40);(try clear hcz47);(try clear hcz49);(try clear hcz56);(try clear hcz59);(try clear hcz64);(try clear hfz11);(try clear hfz28);(try clear hfz34);(try clear hfz40);(try clear hfz47);(try clear hfz49);(try clear hfz56);(try clear hfz59);(try clear hfz64);(try clear hx235_0);(try clear hx236_0);(try clear hx237_0);(try clear hx243_0);(try clear hx244_0);(try clear hx245_0);(try clear hx246_0);(try clear p235);(try clear p236);(try clear p237);(try clear p243);(try clear p244);(try clear p245);(try clear p246);(try clear q235);(try clear q236);(try clear q237);(try clear q243);(try clear q244);(try clear q245);(try clear q246)
        obtain ⟨kq, x75_52, rfl, HA, HJ52, HO_239004, BK228, BK229, BK238, HB⟩ := hcut
        cases kq with
        | zero => exact absurd HA.out (by simp [wire_DecodeReply.j1])
        | succ kj52 =>
         have H := HA.out
         clear HA
         simp only [wire_DecodeReply.j1] at H
         by_cases c65 : x75_52 = true
         ·subst c65
          have H1 : (some (0, 0, 0, 0, ([] : List Int), ([] : List (S59)), 2)) = some (r1, r2, r3, r4, r5, r6, r7) := by rw [if_pos rfl] at H; exact H
          clear H
          have H := H1
          clear H1
          simp only [Option.some.injEq, Prod.mk.injEq] at H
          obtain ⟨rfl, rfl, rfl, rfl, rfl, rfl, rfl⟩ := H
          have hnb66 := NB229_228.out
          have hnc66 := NB228_229.out
          have hnb67 := NB229_238.out
          have hnc67 := NB238_229.out
          have hcz68 := Zz.c6 BK229.out
          have hfz68 := blk_frozen BK229.out
          have hnb69 := NB228_238.out
          have hnc69 := NB238_228.out
          have hcz70 := Zz.c6 BK228.out
          have hfz70 := blk_frozen BK228.out
          go_wp2
          refine bodyPost_ret (results_ct rfl _ _ gb228 26 #[.int .i64 0, .int .i64 0, .int .i64 0, .int .i64 0, .slice none 0 0, .slice none 0 0] (0, 0) _ rfl (by (with_reducible repeat (first | refine blk_drewN ?_ _ | refine blk_drew ?_ | refine blk_alloc ?_ _)); exact Zz.u6_0_5 BK228.out) Try.underlying26 rfl (by kernel_rfl)) rfl ?_
          exact ⟨_, _, by first | rfl | (simp [errW_none, errW_some] <;> rfl) | (simp [*, errW_none, errW_some] <;> rfl), by first | exact Kd.R_nil _ _ _ _ _ | exact Kd.N_nil _ _ _ _ _ | exact Kd.V_nil _ _ _ _ _ | exact Kd.Q_nil _ _ _ _ _ | exact Kd.S_nil _ _ _ _ _, by first | exact Kd.R_nil _ _ _ _ _ | exact Kd.N_nil _ _ _ _ _ | exact Kd.V_nil _ _ _ _ _ | exact Kd.Q_nil _ _ _ _ _ | exact Kd.S_nil _ _ _ _ _, by repeat (first | (with_reducible first | exact HB.out | apply below_alloc | apply pw_below_drewN | apply below_drew1 | refine below_set ?_ GE228.out | refine below_set ?_ GE229.out | refine below_set ?_ GE238.out) | exact HB.out)⟩
         replace c65 := Bool.eq_false_iff.mpr c65
         subst c65
         have H1 : ((varint_Take.f t248).bind fun bt253 => (if bt253.2.2 = 0 then (if bt253.1 < 0 then (wire_DecodeReply.j2 kj52 bt253.2.1 bt253.1 true 0 0 0 0 (rd t230 0) (rd t230 1) (rd t230 2) (rd t230 3) t247) else (wire_DecodeReply.j2 kj52 bt253.2.1 bt253.1 (decide (bt253.1 > 2048)) 0 0 0 0 (rd t230 0) (rd t230 1) (rd t230 2) (rd t230 3) t247)) else (wire_DecodeReply.j2 kj52 bt253.2.1 bt253.1 true 0 0 0 0 (rd t230 0) (rd t230 1) (rd t230 2) (rd t230 3) t247))) = some (r1, r2, r3, r4, r5, r6, r7) := by rw [if_neg (show ¬ (false = true) by decide)] at H; exact H
         clear H
         have H := H1
         clear H1
         replace H := Option.bind_eq_some_iff.mp H
         obtain ⟨⟨t253, t254, t255⟩, A710, H⟩ := H
         replace H : (if t255 = 0 then (if t253 < 0 then (wire_DecodeReply.j2 kj52 t254 t253 true 0 0 0 0 (rd t230 0) (rd t230 1) (rd t230 2) (rd t230 3) t247) else (wire_DecodeReply.j2 kj52 t254 t253 (decide (t253 > 2048)) 0 0 0 0 (rd t230 0) (rd t230 1) (rd t230 2) (rd t230 3) t247)) else (wire_DecodeReply.j2 kj52 t254 t253 true 0 0 0 0 (rd t230 0) (rd t230 1) (rd t230 2) (rd t230 3) t247)) = some (r1, r2, r3, r4, r5, r6, r7) := H
         have A71 := Aside0.mk A710
         clear A710
         have HC72 := Aside0.mk H
         clear H
         go_upto_region 13 with (first | ((with_reducible refine gate_callee (f := 33) rfl ?_); refine goesL_ (some 79) rfl rfl Try.func33 (by kernel_rfl) rfl #[.string t248] rfl Zz.g ?_; (with_reducible refine (varint_Take.calls t248 t253 t254 t255 _ A71.out).mono ?_); rintro e w' ⟨rfl, ⟨nd, rfl⟩⟩; refine ⟨_, rfl, ?_⟩))
         (try simp only [Act.put, List.setIfInBounds_toArray, List.set_cons_zero, List.set_cons_succ])
         go_cut [92] (fun v92 wc => ∃ (kq : Nat) (x92_71 : Bool), v92 = .bool x92_71 ∧ Aside0 (wire_DecodeReply.j2 kq t254 t253 x92_71 0 0 0 0 (rd t230 0) (rd t230 1) (rd t230 2) (rd t230 3) t247 = some (r1, r2, r3, r4, r5, r6, r7)) ∧ Aside0 (kq ≤ kj52) ∧ Aside0 (Kd.R (Kd.int .i64) 3 wc w.heap.size (fun _ => True) (.slice Ao58 t247.length co58) t247) ∧ Aside0 (wc.heap[gb228]? = some (.cells #[.int .i64 0, .int .i64 0, .int .i64 0, .int .i64 0, (.slice none 0 0), (.slice none 0 0)] 26 (0, 0))) ∧ Aside0 (wc.heap[gb229]? = some (.cells #[.int .i64 0, .int .i64 0, .int .i64 0, .int .i64 0, (.slice none 0 0), (.slice none 0 0)] 26 (0, 0))) ∧ Aside0 (wc.heap[gb238]? = some (.cells #[.int .i64 (rd t230 0), .int .i64 (rd t230 1), .int .i64 (rd t230 2), .int .i64 (rd t230 3), (.slice Ao58 t247.length co58), (.slice none 0 0)] 26 (0, 0))) ∧ Aside0 (Below w.heap.size w wc))
         case first =>
          have H := HC72.out
          clear HC72
          by_cases c73 : t255 = 0
          ·rw [if_pos c73] at H
           have c73b0 : (t255 == 0) = true := beq_iff_eq.mpr c73
           have c73b1 : (t255 != 0) = false := bne_eq_false_iff_eq.mpr c73
           clear c73
           (first | rw [c73b0] | rw [c73b9] | (simp only [i64_w, i32_w]; rw [c73b0]) | skip)
           by_cases c74 : t253 < 0
           ·rw [if_pos c74] at H
            have c74b0 : decide (t253 < 0) = true := decide_eq_true c74
            clear c74
            have H' := Aside0.mk H
            clear H
            go_wp2
            go_meet
            case rel => exact ⟨_, (true), Zz.q, H', ⟨by have := HJ6.out; have := HJ52.out; first | omega | exact Nat.le_refl _⟩, ⟨Zz.r HO_239004.out⟩, ⟨Zz.p BK228.out⟩, ⟨Zz.p BK229.out⟩, ⟨Zz.p BK238.out⟩, ⟨by repeat (first | (with_reducible first | exact HB.out | apply below_alloc | apply pw_below_drewN | apply below_drew1 | refine below_set ?_ GE228.out | refine below_set ?_ GE229.out | refine below_set ?_ GE238.out) | exact HB.out)⟩⟩
           rw [if_neg c74] at H
           have c74b0 : decide (t253 < 0) = false := decide_eq_false c74
           clear c74
           have H' := Aside0.mk H
           clear H
           go_wp2
           go_meet
           case rel => exact ⟨_, (decide (t253 > 2048)), Zz.q, H', ⟨by have := HJ6.out; have := HJ52.out; first | omega | exact Nat.le_refl _⟩, ⟨Zz.r HO_239004.out⟩, ⟨Zz.p BK228.out⟩, ⟨Zz.p BK229.out⟩, ⟨Zz.p BK238.out⟩, ⟨by repeat (first | (with_reducible first | exact HB.out | apply below_alloc | apply pw_below_drewN | apply below_drew1 | refine below_set ?_ GE228.out | refine below_set ?_ GE229.out | refine below_set ?_ GE238.out) | exact HB.out)⟩⟩
          rw [if_neg c73] at H
          have c73b0 : (t255 == 0) = false := beq_eq_false_iff_ne.mpr c73
          have c73b1 : (t255 != 0) = true := bne_iff_ne.mpr c73
          (first | rw [c73b0] | rw [c73b9] | (simp only [i64_w, i32_w]; rw [c73b0]) | skip)
          have H' := Aside0.mk H
          clear H
          go_wp2
          go_meet
          case rel => exact ⟨_, (true), Zz.q, H', ⟨by have := HJ6.out; have := HJ52.out; first | omega | exact Nat.le_refl _⟩, ⟨Zz.r HO_239004.out⟩, ⟨Zz.p BK228.out⟩, ⟨Zz.p BK229.out⟩, ⟨Zz.p BK238.out⟩, ⟨by repeat (first | (with_reducible first | exact HB.out | apply below_alloc | apply pw_below_drewN | apply below_drew1 | refine below_set ?_ GE228.out | refine below_set ?_ GE229.out | refine below_set ?_ GE238.out) | exact HB.out)⟩⟩
         clear HC72
         (try clear c1);(try clear c2);(try clear p2);(try clear q2);(try clear hx2);(try clear qi2);(try clear c3);(try clear c3b0);(try clear c3b1);(try clear c4);(try clear c4b0);(try clear c4b1);(try clear c5);(try clear c5b0);(try clear c5b1);(try clear c6);(try clear c6b0);(try clear c6b1);(try clear c7);(try clear c10);(try clear c12);(try clear c21);(try clear c23);(try clear p23);(try clear q23);(try clear hx23);(try clear qi23);(try clear c24);(try clear c24b0);(try clear c24b1);(try clear p24);(try clear q24);(try clear hx24);(try clear qi24);(try clear c25);(try clear c25b0);(try clear c26);(try clear c27);(try clear c32);(try clear c33);(try clear c38);(try clear c39);(try clear c44);(try clear c45);(try clear c46);(try clear c48);(try clear c50);(try clear c50b0);(try clear c50b1);(try clear c51);(try clear c51b0);(try clear c51b1);(try clear c54);(try clear c55);(try clear c60);(try clear c60b0);(try clear c60b1);(try clear c62);(try clear c63);(try clear c65);(try clear c66);(try clear c67);(try clear c69);(try clear c73);(try clear c73b0);(try clear c73b1);(try clear c74);(try clear c74b0);(try clear hcz11);(try clear hcz28);(try clear hcz34);(try clear hcz40);(try clear hcz47);(try clear hcz49);(try clear hcz56);(try clear hcz59);(try clear hcz64);(try clear hcz68);(try clear hcz70);(try clear hfz11);(try clear hfz28);(try clear hfz34);(try clear hfz40);(try clear hfz47);(try clear hfz49);(try clear hfz56);(try clear hfz59);(try clear hfz64);(try clear hfz68);(try clear hfz70);(try clear hx235_0);(try clear hx236_0);(try clear hx237_0);(try clear hx243_0);(try clear hx244_0);(try clear hx245_0);(try clear hx246_0);(try clear p235);(try clear p236);(try clear p237);(try clear p243);(try clear p244);(try clear p245);(try clear p246);(try clear q235);(try clear q236);(try clear q237);(try clear q243);(try clear q244);(try clear q245);(try clear q246)
         obtain ⟨kq, x92_71, rfl, HA, HJ71, HO_239004, BK228, BK229, BK238, HB⟩ := hcut
         cases kq with
         | zero => exact absurd HA.out (by simp [wire_DecodeReply.j2])
         | succ kj71 =>
          have H := HA.out
          clear HA
          simp only [wire_DecodeReply.j2] at H
          by_cases c75 : x92_71 = true
          ·subst c75
           have H1 : (some (0, 0, 0, 0, ([] : List Int), ([] : List (S59)), 2)) = some (r1, r2, r3, r4, r5, r6, r7) := by rw [if_pos rfl] at H; exact H
           clear H
           have H := H1
           clear H1
           simp only [Option.some.injEq, Prod.mk.injEq] at H
           obtain ⟨rfl, rfl, rfl, rfl, rfl, rfl, rfl⟩ := H
           have hnb76 := NB229_228.out
           have hnc76 := NB228_229.out
           have hnb77 := NB229_238.out
           have hnc77 := NB238_229.out
           have hcz78 := Zz.c6 BK229.out
           have hfz78 := blk_frozen BK229.out
           have hnb79 := NB228_238.out
           have hnc79 := NB238_228.out
           have hcz80 := Zz.c6 BK228.out
           have hfz80 := blk_frozen BK228.out
           go_wp2
           refine bodyPost_ret (results_ct rfl _ _ gb228 26 #[.int .i64 0, .int .i64 0, .int .i64 0, .int .i64 0, .slice none 0 0, .slice none 0 0] (0, 0) _ rfl (by (with_reducible repeat (first | refine blk_drewN ?_ _ | refine blk_drew ?_ | refine blk_alloc ?_ _)); exact Zz.u6_0_5 BK228.out) Try.underlying26 rfl (by kernel_rfl)) rfl ?_
           exact ⟨_, _, by first | rfl | (simp [errW_none, errW_some] <;> rfl) | (simp [*, errW_none, errW_some] <;> rfl), by first | exact Kd.R_nil _ _ _ _ _ | exact Kd.N_nil _ _ _ _ _ | exact Kd.V_nil _ _ _ _ _ | exact Kd.Q_nil _ _ _ _ _ | exact Kd.S_nil _ _ _ _ _, by first | exact Kd.R_nil _ _ _ _ _ | exact Kd.N_nil _ _ _ _ _ | exact Kd.V_nil _ _ _ _ _ | exact Kd.Q_nil _ _ _ _ _ | exact Kd.S_nil _ _ _ _ _, by repeat (first | (with_reducible first | exact HB.out | apply below_alloc | apply pw_below_drewN | apply below_drew1 | refine below_set ?_ GE228.out | refine below_set ?_ GE229.out | refine below_set ?_ GE238.out) | exact HB.out)⟩
          replace c75 := Bool.eq_false_iff.mpr c75
          subst c75
          have H1 : (wire_DecodeReply.l0 kj71 t254 t253 0 0 0 0 0 (rd t230 0) (rd t230 1) (rd t230 2) (rd t230 3) t247 ([] : List (S59))) = some (r1, r2, r3, r4, r5, r6, r7) := by rw [if_neg (show ¬ (false = true) by decide)] at H; exact H
          clear H
          have H := H1
          clear H1
          have H' := Aside0.mk H
          clear H
          go_wp2
          go_loopg [6, 95] kj71 (fun kq v6 v95 w' => ∃ (x6_4 : ByteArray) (x95_4 : Int) (x229000_4 : Int) (x229001_4 : Int) (x229002_4 : Int) (x229003_4 : Int) (x239005_4 : List (S59)) (u239005 : Value), v6 = .string x6_4 ∧ v95 = .int .i64 x95_4 ∧ Aside0 (wire_DecodeReply.l0 kq x6_4 t253 x95_4 0 0 0 0 (rd t230 0) (rd t230 1) (rd t230 2) (rd t230 3) t247 x239005_4 = some (r1, r2, r3, r4, r5, r6, r7)) ∧ Aside0 (kq ≤ kj71) ∧ Aside0 (Kd.R (Kd.int .i64) 3 w' w.heap.size (fun _ => True) (.slice Ao58 t247.length co58) t247) ∧ Aside0 (Kd.R k59 59 w' w.heap.size (fun _ => True) u239005 x239005_4) ∧ Aside0 (w'.heap[gb228]? = some (.cells #[.int .i64 x229000_4, .int .i64 x229001_4, .int .i64 x229002_4, .int .i64 x229003_4, (.slice none 0 0), (.slice none 0 0)] 26 (0, 0))) ∧ Aside0 (w'.heap[gb229]? = some (.cells #[.int .i64 0, .int .i64 0, .int .i64 0, .int .i64 0, (.slice none 0 0), (.slice none 0 0)] 26 (0, 0))) ∧ Aside0 (w'.heap[gb238]? = some (.cells #[.int .i64 (rd t230 0), .int .i64 (rd t230 1), .int .i64 (rd t230 2), .int .i64 (rd t230 3), (.slice Ao58 t247.length co58), u239005] 26 (0, 0))) ∧ Aside0 (Below w.heap.size w w'))
          case atStart => exact ⟨(t254), (0), (0), (0), (0), (0), (([] : List (S59))), (.slice none 0 0), Zz.q, Zz.q, H', ⟨Nat.le_refl _⟩, ⟨Zz.r HO_239004.out⟩, ⟨by first | exact Kd.R_nil _ _ _ _ _ | exact Kd.N_nil _ _ _ _ _ | exact Kd.V_nil _ _ _ _ _ | exact Kd.Q_nil _ _ _ _ _ | exact Kd.S_nil _ _ _ _ _⟩, ⟨Zz.p BK228.out⟩, ⟨Zz.p BK229.out⟩, ⟨Zz.p BK238.out⟩, ⟨by repeat (first | (with_reducible first | exact HB.out | apply below_alloc | apply pw_below_drewN | apply below_drew1 | refine below_set ?_ GE228.out | refine below_set ?_ GE229.out | refine below_set ?_ GE238.out) | exact HB.out)⟩⟩
          case round =>
           clear H'
           (try clear c1);(try clear c2);(try clear p2);(try clear q2);(try clear hx2);(try clear qi2);(try clear c3);(try clear c3b0);(try clear c3b1);(try clear c4);(try clear c4b0);(try clear c4b1);(try clear c5);(try clear c5b0);(try clear c5b1);(try clear c6);(try clear c6b0);(try clear c6b1);(try clear c7);(try clear c10);(try clear c12);(try clear c21);(try clear c23);(try clear p23);(try clear q23);(try clear hx23);(try clear qi23);(try clear c24);(try clear c24b0);(try clear c24b1);(try clear p24);(try clear q24);(try clear hx24);(try clear qi24);(try clear c25);(try clear c25b0);(try clear c26);(try clear c27);(try clear c32);(try clear c33);(try clear c38);(try clear c39);(try clear c44);(try clear c45);(try clear c46);(try clear c48);(try clear c50);(try clear c50b0);(try clear c50b1);(try clear c51);(try clear c51b0);(try clear c51b1);(try clear c54);(try clear c55);(try clear c60);(try clear c60b0);(try clear c60b1);(try clear c62);(try clear c63);(try clear c65);(try clear c66);(try clear c67);(try clear c69);(try clear c73);(try clear c73b0);(try clear c73b1);(try clear c74);(try clear c74b0);(try clear c75);(try clear c76);(try clear c77);(try clear c79);(try clear hcz11);(try clear hcz28);(try clear hcz34);(try clear hcz40);(try clear hcz47);(try clear hcz49);(try clear hcz56);(try clear hcz59);(try clear hcz64);(try clear hcz68);(try clear hcz70);(try clear hcz78);(try clear hcz80);(try clear hfz11);(try clear hfz28);(try clear hfz34);(try clear hfz40);(try clear hfz47);(try clear hfz49);(try clear hfz56);(try clear hfz59);(try clear hfz64);(try clear hfz68);(try clear hfz70);(try clear hfz78);(try clear hfz80);(try clear hx235_0);(try clear hx236_0);(try clear hx237_0);(try clear hx243_0);(try clear hx244_0);(try clear hx245_0);(try clear hx246_0);(try clear p235);(try clear p236);(try clear p237);(try clear p243);(try clear p244);(try clear p245);(try clear p246);(try clear q235);(try clear q236);(try clear q237);(try clear q243);(try clear q244);(try clear q245);(try clear q246)
           obtain ⟨x6_4, x95_4, x229000_4, x229001_4, x229002_4, x229003_4, x239005_4, u239005, rfl, rfl, HA, HK4, HO_239004, HO_239005, BK228, BK229, BK238, HB⟩ := hrel
           cases gk with
           | zero => exact absurd HA.out (by simp [wire_DecodeReply.l0])
           | succ k4 =>
            have H := HA.out
            clear HA
            simp only [wire_DecodeReply.l0] at H
            by_cases c81 : x95_4 < t253
            ·rw [if_pos c81] at H
             have c81b0 : decide (x95_4 < t253) = true := decide_eq_true c81
             clear c81
             replace H := Option.bind_eq_some_iff.mp H
             obtain ⟨⟨t257, t258, t259⟩, A820, H⟩ := H
             replace H : (if t259 = 0 then ((wire_within.f (([t257] : List Int))).bind fun t263 => (wire_DecodeReply.j4 k4 t258 t253 x95_4 (!t263) 0 0 0 0 (rd t230 0) (rd t230 1) (rd t230 2) (rd t230 3) t247 x239005_4 t257 0 0 (⟨#[]⟩ : ByteArray))) else (wire_DecodeReply.j4 k4 t258 t253 x95_4 true 0 0 0 0 (rd t230 0) (rd t230 1) (rd t230 2) (rd t230 3) t247 x239005_4 t257 0 0 (⟨#[]⟩ : ByteArray))) = some (r1, r2, r3, r4, r5, r6, r7) := H
             have A82 := Aside0.mk A820
             clear A820
             have HC83 := Aside0.mk H
             clear H
             go_upto_region 19 with (first | ((with_reducible refine gate_dst (N := 10) rfl ?_); (try (refine gate_guard (by rfl) ?_; dsimp only)); refine box_event ?hg (N := 10) ?hd (cs := #[.int .i64 0, .int .i64 0, .int .i64 0, .string (⟨#[]⟩ : ByteArray)]) (t := 59) ?hr ?_; (case hd => rfl); (case hg => rfl); (case hr => first | (go_simp; done) | (go_simp; rfl)); intro gb256 hg w84 hbox hb; replace HO_239004 := Aside0.mk (Kd.R_below (Zz.r HO_239004.out) hb); replace HO_239005 := Aside0.mk (Kd.R_below (Kd.R_elderB (Zz.r HO_239005.out) gb256 (Nat.le_of_eq hg.symm)) hb); have BK256 := Aside0.mk (hbox); have GW256 := Aside0.mk (Zz.ge hg HB.out); have GE256 := Aside0.mk (Zz.ge hg HB.out); replace HB := Aside0.mk (below_step (Zz.i HB.out) hb); have NB228_256 := Aside0.mk (Zz.nl hg BK228.out); have NB256_228 := Aside0.mk (Zz.ng hg BK228.out); replace BK228 := Aside0.mk (Zz.bb BK228.out hb); have NB229_256 := Aside0.mk (Zz.nl hg BK229.out); have NB256_229 := Aside0.mk (Zz.ng hg BK229.out); replace BK229 := Aside0.mk (Zz.bb BK229.out hb); have NB238_256 := Aside0.mk (Zz.nl hg BK238.out); have NB256_238 := Aside0.mk (Zz.ng hg BK238.out); replace BK238 := Aside0.mk (Zz.bb BK238.out hb); clear hb hbox hg) | ((with_reducible refine gate_callee (f := 33) rfl ?_); refine goesL_ (some 99) rfl rfl Try.func33 (by kernel_rfl) rfl #[.string x6_4] rfl Zz.g ?_; (with_reducible refine (varint_Take.calls x6_4 t257 t258 t259 _ A82.out).mono ?_); rintro e w' ⟨rfl, ⟨nd, rfl⟩⟩; refine ⟨_, rfl, ?_⟩; (try (rw [drewN_self w84]; generalize hq_ : World.drewN w84 _ = w84; have n0_ := Aside0.mk (Zz.rq hq_ HO_239004.out); have n1_ : Aside0 (Kd.R k59 59 w84 w.heap.size (fun k_ => k_ ≠ gb256) u239005 x239005_4) := ⟨by rw [← hq_]; exact (by (with_reducible repeat (first | apply Kd.R_alloc | apply Kd.R_drewN | apply Kd.R_drew)); exact Kd.R_mono HO_239005.out (fun _ hk => by first | exact hk | exact hk.2))⟩; have n2_ := Aside0.mk (Zz.pq hq_ BK228.out); have n3_ := Aside0.mk (Zz.pq hq_ BK229.out); have n4_ := Aside0.mk (Zz.pq hq_ BK238.out); have n5_ := Aside0.mk (Zz.pq hq_ BK256.out); have n6_ := Aside0.mk (Zz.iq hq_ HB.out); clear HO_239004 HO_239005 BK228 BK229 BK238 BK256 HB hq_; have HO_239004 := n0_; have HO_239005 := n1_; have BK228 := n2_; have BK229 := n3_; have BK238 := n4_; have BK256 := n5_; have HB := n6_; clear n0_ n1_ n2_ n3_ n4_ n5_ n6_)); have hnb85 := NB256_228.out; have hnc85 := NB228_256.out; have hnb86 := NB256_229.out; have hnc86 := NB229_256.out; have hnb87 := NB256_238.out; have hnc87 := NB238_256.out; have hcz88 := Zz.c4 BK256.out; have hfz88 := blk_frozen BK256.out))
             (try simp only [Act.put, List.setIfInBounds_toArray, List.set_cons_zero, List.set_cons_succ])
             go_cut [112] (fun v112 wc => ∃ (kq : Nat) (x112_82 : Bool), v112 = .bool x112_82 ∧ Aside0 (wire_DecodeReply.j4 kq t258 t253 x95_4 x112_82 0 0 0 0 (rd t230 0) (rd t230 1) (rd t230 2) (rd t230 3) t247 x239005_4 t257 0 0 (⟨#[]⟩ : ByteArray) = some (r1, r2, r3, r4, r5, r6, r7)) ∧ Aside0 (kq ≤ k4) ∧ Aside0 (Kd.R (Kd.int .i64) 3 wc w.heap.size (fun _ => True) (.slice Ao58 t247.length co58) t247) ∧ Aside0 (Kd.R k59 59 wc w.heap.size (fun k_ => k_ ≠ gb256) u239005 x239005_4) ∧ Aside0 (wc.heap[gb228]? = some (.cells #[.int .i64 x229000_4, .int .i64 x229001_4, .int .i64 x229002_4, .int .i64 x229003_4, (.slice none 0 0), (.slice none 0 0)] 26 (0, 0))) ∧ Aside0 (wc.heap[gb229]? = some (.cells #[.int .i64 0, .int .i64 0, .int .i64 0, .int .i64 0, (.slice none 0 0), (.slice none 0 0)] 26 (0, 0))) ∧ Aside0 (wc.heap[gb238]? = some (.cells #[.int .i64 (rd t230 0), .int .i64 (rd t230 1), .int .i64 (rd t230 2), .int .i64 (rd t230 3), (.slice Ao58 t247.length co58), u239005] 26 (0, 0))) ∧ Aside0 (wc.heap[gb256]? = some (.cells #[.int .i64 t257, .int .i64 0, .int .i64 0, .string (⟨#[]⟩ : ByteArray)] 59 (0, 0))) ∧ Aside0 (Below w.heap.size w wc))
             case first =>
              have H := HC83.out
              clear HC83
              by_cases c89 : t259 = 0
              ·rw [if_pos c89] at H
               have c89b0 : (t259 == 0) = true := beq_iff_eq.mpr c89
               have c89b1 : (t259 != 0) = false := bne_eq_false_iff_eq.mpr c89
               clear c89
               (first | rw [c89b0] | rw [c89b9] | (simp only [i64_w, i32_w]; rw [c89b0]) | skip)
               obtain ⟨y260, hy260⟩ : ∃ y_ : List Int, y_ = (([t257] : List Int)) := ⟨_, rfl⟩
               replace H : ((wire_within.f y260).bind fun t263 => (wire_DecodeReply.j4 k4 t258 t253 x95_4 (!t263) 0 0 0 0 (rd t230 0) (rd t230 1) (rd t230 2) (rd t230 3) t247 x239005_4 t257 0 0 (⟨#[]⟩ : ByteArray))) = some (r1, r2, r3, r4, r5, r6, r7) := by first | (rw [hy260]; with_reducible exact H) | (have H2_ := (Option.bind_some _ _).symm.trans H; rw [hy260]; with_reducible exact H2_) | (have H2_ := (Option.bind_some _ _).symm.trans H; with_reducible exact H2_) | with_reducible exact H | (rw [hy260]; exact H) | exact H
               have Ny260 := Aside0.mk hy260
               clear hy260
               replace H := Option.bind_eq_some_iff.mp H
               obtain ⟨t263, A900, H⟩ := H
               replace H : (wire_DecodeReply.j4 k4 t258 t253 x95_4 (!t263) 0 0 0 0 (rd t230 0) (rd t230 1) (rd t230 2) (rd t230 3) t247 x239005_4 t257 0 0 (⟨#[]⟩ : ByteArray)) = some (r1, r2, r3, r4, r5, r6, r7) := H
               have A90 := Aside0.mk A900
               clear A900
               have H' := Aside0.mk H
               clear H
               have hnb91 := NB256_228.out
               have hnc91 := NB228_256.out
               have hnb92 := NB256_229.out
               have hnc92 := NB229_256.out
               have hnb93 := NB256_238.out
               have hnc93 := NB238_256.out
               have hcz94 := Zz.c4 BK256.out
               have hfz94 := blk_frozen BK256.out
               go_wp2_with (first | ((with_reducible refine gate_dst (N := 109) rfl ?_); (try (refine gate_guard (by rfl) ?_; dsimp only)); refine Kd.R_lit (Kd.int .i64) _ 3 ?hg (N := 109) ?hd (xs := ([t257] : List Int)) (inner := [.int .i64 t257]) (ok := fun _ => True) (okp := fun _ => True) ?hr ?hp (fun _ hk => hk) trivial (Below.refl _ _) (Nat.le_refl _) (by simp) ?_; (case hd => rfl); (case hg => rfl); (case hr => first | (go_simp; done) | (go_simp; rfl)); (case hp => exact (Reps.one (show Kd.M (Kd.int .i64) _ _ _ t257 [.int .i64 t257] from rfl) (Reps.none _ _))); intro v261 w95 ho96 hb hg_ hnew_; clear hg_ hnew_; (first | rw [← Ny260.out] at ho96 | (simp only [Int.reduceToNat] at ho96; rw [← Ny260.out] at ho96)); have n0_ := Aside0.mk (Kd.R_elder' (by (with_reducible repeat (first | apply Kd.R_alloc | apply Kd.R_drewN | apply Kd.R_drew)); exact (Kd.R_mono (Kd.R_far (p := ⟨gb256, 0, none⟩) (Kd.R_types HO_239004.out BK256.out (by decide)) (fun _ hk => hk.2) (.int .i64 t257)) (fun _ h_ => h_.1))) (Kd.R_base ho96) hb); have n1_ := Aside0.mk (Kd.R_below (by (with_reducible repeat (first | apply Kd.R_alloc | apply Kd.R_drewN | apply Kd.R_drew)); exact (Kd.R_mono (Kd.R_far (p := ⟨gb256, 0, none⟩) (Kd.R_mono HO_239005.out (fun k_ hk => (⟨hk, by first | exact hk | exact hk.2⟩ : _ ∧ k_ ≠ gb256))) (fun _ hk => hk.2) (.int .i64 t257)) (fun _ h_ => h_.1))) hb); have n2_ := Aside0.mk (Kd.R_lower (Kd.R_new' ho96 (Kd.R_lt (by (with_reducible repeat (first | apply Kd.R_alloc | apply Kd.R_drewN | apply Kd.R_drew)); exact (Kd.R_mono (Kd.R_far (p := ⟨gb256, 0, none⟩) (Kd.R_types HO_239004.out BK256.out (by decide)) (fun _ hk => hk.2) (.int .i64 t257)) (fun _ h_ => h_.1))))) (below_size (Zz.i HB.out))); have n3_ := Aside0.mk (Zz.b1 BK228.out NB228_256.out hb); have n4_ := Aside0.mk (Zz.b1 BK229.out NB229_256.out hb); have n5_ := Aside0.mk (Zz.b1 BK238.out NB238_256.out hb); have n6_ := Aside0.mk (blk_below (g := gb256) (o := .cells #[.int .i64 t257, .int .i64 0, .int .i64 0, .string (⟨#[]⟩ : ByteArray)] 59 (0, 0)) (by (with_reducible repeat (first | refine blk_drewN ?_ _ | refine blk_drew ?_ | refine blk_alloc ?_ _)); refine blk_put (cs := #[.int .i64 0, .int .i64 0, .int .i64 0, .string (⟨#[]⟩ : ByteArray)]) ?_ 0 _ rfl; (with_reducible repeat (first | refine blk_drewN ?_ _ | refine blk_drew ?_ | refine blk_alloc ?_ _)); exact BK256.out) hb); have n7_ := Aside0.mk (below_step (Zz.i HB.out) hb); clear HO_239004; clear HO_239005; clear BK228; clear BK229; clear BK238; clear BK256; clear HB; have HO_239004 := n0_; have HO_239005 := n1_; have HO262 := n2_; have BK228 := n3_; have BK229 := n4_; have BK238 := n5_; have BK256 := n6_; have HB := n7_; clear n0_ n1_ n2_ n3_ n4_ n5_ n6_ n7_; clear hb ho96; obtain ⟨Ao97, co97, eo97⟩ := Kd.R_slice HO262.out; subst eo97) | (go_at_call 21; (with_reducible refine (wire_within.calls _ _ y260 t263 _ ?side1 ?side2 A90.out).mono ?_); (case side1 => repeat (first | exact (Kd.R_reads' HO262.out).2.2 | (with_reducible refine Kd.C_alloc ?_ _) | (with_reducible refine Kd.C_drewN ?_ _) | (with_reducible refine Kd.C_drew ?_))); (case side2 => exact (Kd.R_reads' HO262.out).2.1); rintro e w' ⟨rfl, ⟨nd, rfl⟩⟩))
               go_meet
               case rel => exact ⟨_, (!t263), Zz.q, H', ⟨by have := HJ6.out; have := HJ52.out; have := HJ71.out; have := HK4.out; first | omega | exact Nat.le_refl _⟩, ⟨Zz.rt HO_239004.out⟩, ⟨by (with_reducible repeat (first | apply Kd.R_alloc | apply Kd.R_drewN | apply Kd.R_drew)); exact Kd.R_mono HO_239005.out (fun _ hk => by first | exact hk | exact hk.2)⟩, ⟨Zz.p BK228.out⟩, ⟨Zz.p BK229.out⟩, ⟨Zz.p BK238.out⟩, ⟨Zz.p BK256.out⟩, ⟨by repeat (first | (with_reducible first | exact HB.out | apply below_alloc | apply pw_below_drewN | apply below_drew1 | refine below_set ?_ GE228.out | refine below_set ?_ GE229.out | refine below_set ?_ GE238.out | refine below_set ?_ GE256.out) | exact HB.out)⟩⟩
              rw [if_neg c89] at H
              have c89b0 : (t259 == 0) = false := beq_eq_false_iff_ne.mpr c89
              have c89b1 : (t259 != 0) = true := bne_iff_ne.mpr c89
              (first | rw [c89b0] | rw [c89b9] | (simp only [i64_w, i32_w]; rw [c89b0]) | skip)
              have H' := Aside0.mk H
              clear H
              go_wp2
              go_meet
              case rel => exact ⟨_, (true), Zz.q, H', ⟨by have := HJ6.out; have := HJ52.out; have := HJ71.out; have := HK4.out; first | omega | exact Nat.le_refl _⟩, ⟨by (with_reducible repeat (first | apply Kd.R_alloc | apply Kd.R_drewN | apply Kd.R_drew)); exact Kd.R_mono (Kd.R_far (p := ⟨gb256, 0, none⟩) (Kd.R_types HO_239004.out BK256.out (by decide)) (fun _ hk => hk.2) (.int .i64 t257)) (fun _ hk => trivial)⟩, ⟨by (with_reducible repeat (first | apply Kd.R_alloc | apply Kd.R_drewN | apply Kd.R_drew)); exact Kd.R_mono (Kd.R_far (p := ⟨gb256, 0, none⟩) (Kd.R_mono HO_239005.out (fun k_ hk => (⟨hk, by first | exact hk | exact hk.2⟩ : _ ∧ k_ ≠ gb256))) (fun _ hk => hk.2) (.int .i64 t257)) (fun _ hk => by first | exact hk.1 | exact hk.1.2)⟩, ⟨Zz.p1 BK228.out NB228_256.out⟩, ⟨Zz.p1 BK229.out NB229_256.out⟩, ⟨Zz.p1 BK238.out NB238_256.out⟩, ⟨by (with_reducible repeat (first | refine blk_drewN ?_ _ | refine blk_drew ?_ | refine blk_alloc ?_ _)); refine blk_put (cs := #[.int .i64 0, .int .i64 0, .int .i64 0, .string (⟨#[]⟩ : ByteArray)]) ?_ 0 _ rfl; (with_reducible repeat (first | refine blk_drewN ?_ _ | refine blk_drew ?_ | refine blk_alloc ?_ _)); exact BK256.out⟩, ⟨by repeat (first | (with_reducible first | exact HB.out | apply below_alloc | apply pw_below_drewN | apply below_drew1 | refine below_set ?_ GE228.out | refine below_set ?_ GE229.out | refine below_set ?_ GE238.out | refine below_set ?_ GE256.out) | exact HB.out)⟩⟩
             clear HC83
             (try clear c1);(try clear c2);(try clear p2);(try clear q2);(try clear hx2);(try clear qi2);(try clear c3);(try clear c3b0);(try clear c3b1);(try clear c4);(try clear c4b0);(try clear c4b1);(try clear c5);(try clear c5b0);(try clear c5b1);(try clear c6);(try clear c6b0);(try clear c6b1);(try clear c7);(try clear c8);(try clear c9);(try clear c10);(try clear c12);(try clear c21);(try clear c23);(try clear p23);(try clear q23);(try clear hx23);(try clear qi23);(try clear c24);(try clear c24b0);(try clear c24b1);(try clear p24);(try clear q24);(try clear hx24);(try clear qi24);(try clear c25);(try clear c25b0);(try clear c26);(try clear c27);(try clear c32);(try clear c33);(try clear c38);(try clear c39);(try clear c44);(try clear c45);(try clear c46);(try clear c48);(try clear c50);(try clear c50b0);(try clear c50b1);(try clear c51);(try clear c51b0);(try clear c51b1);(try clear c54);(try clear c55);(try clear c60);(try clear c60b0);(try clear c60b1);(try clear c62);(try clear c63);(try clear c65);(try clear c66);(try clear c67);(try clear c69);(try clear c73);(try clear c73b0);(try clear c73b1);(try clear c74);(try clear c74b0);(try clear c75);(try clear c76);(try clear c77);(try clear c79);(try clear c81);(try clear c81b0);(try clear c85);(try clear c86);(try clear c87);(try clear c89);(try clear c89b0);(try clear c89b1);(try clear c91);(try clear c92);(try clear c93);(try clear hcz11);(try clear hcz28);(try clear hcz34);(try clear hcz40);(try clear hcz47);(try clear hcz49);(try clear hcz56);(try clear hcz59);(try clear hcz64);(try clear hcz68);(try clear hcz70);(try clear hcz78);(try clear hcz80);(try clear hcz88);(try clear hcz94);(try clear hfz11);(try clear hfz28);(try clear hfz34);(try clear hfz40);(try clear hfz47);(try clear hfz49);(try clear hfz56);(try clear hfz59);(try clear hfz64);(try clear hfz68);(try clear hfz70);(try clear hfz78);(try clear hfz80);(try clear hfz88);(try clear hfz94);(try clear hx235_0);(try clear hx236_0);(try clear hx237_0);(try clear hx243_0);(try clear hx244_0);(try clear hx245_0);(try clear hx246_0);(try clear p235);(try clear p236);(try clear p237);(try clear p243);(try clear p244);(try clear p245);(try clear p246);(try clear q235);(try clear q236);(try clear q237);(try clear q243);(try clear q244);(try clear q245);(try clear q246)
             obtain ⟨kq, x112_82, rfl, HA, HJ82, HO_239004, HO_239005, BK228, BK229, BK238, BK256, HB⟩ := hcut
             cases kq with
             | zero => exact absurd HA.out (by simp [wire_DecodeReply.j4])
             | succ kj82 =>
              have H := HA.out
              clear HA
              simp only [wire_DecodeReply.j4] at H
              by_cases c98 : x112_82 = true
              ·subst c98
               have H1 : (some (0, 0, 0, 0, ([] : List Int), ([] : List (S59)), 2)) = some (r1, r2, r3, r4, r5, r6, r7) := by rw [if_pos rfl] at H; exact H
               clear H
               have H := H1
               clear H1
               simp only [Option.some.injEq, Prod.mk.injEq] at H
               obtain ⟨rfl, rfl, rfl, rfl, rfl, rfl, rfl⟩ := H
               have hnb99 := NB229_228.out
               have hnc99 := NB228_229.out
               have hnb100 := NB229_238.out
               have hnc100 := NB238_229.out
               have hnb101 := NB229_256.out
               have hnc101 := NB256_229.out
               have hcz102 := Zz.c6 BK229.out
               have hfz102 := blk_frozen BK229.out
               have hnb103 := NB228_238.out
               have hnc103 := NB238_228.out
               have hnb104 := NB228_256.out
               have hnc104 := NB256_228.out
               have hcz105 := Zz.c6 BK228.out
               have hfz105 := blk_frozen BK228.out
               go_wp2
               refine bodyPost_ret (results_ct rfl _ _ gb228 26 #[.int .i64 0, .int .i64 0, .int .i64 0, .int .i64 0, .slice none 0 0, .slice none 0 0] (0, 0) _ rfl (by (with_reducible repeat (first | refine blk_drewN ?_ _ | refine blk_drew ?_ | refine blk_alloc ?_ _)); exact Zz.u6_0_5 BK228.out) Try.underlying26 rfl (by kernel_rfl)) rfl ?_
               exact ⟨_, _, by first | rfl | (simp [errW_none, errW_some] <;> rfl) | (simp [*, errW_none, errW_some] <;> rfl), by first | exact Kd.R_nil _ _ _ _ _ | exact Kd.N_nil _ _ _ _ _ | exact Kd.V_nil _ _ _ _ _ | exact Kd.Q_nil _ _ _ _ _ | exact Kd.S_nil _ _ _ _ _, by first | exact Kd.R_nil _ _ _ _ _ | exact Kd.N_nil _ _ _ _ _ | exact Kd.V_nil _ _ _ _ _ | exact Kd.Q_nil _ _ _ _ _ | exact Kd.S_nil _ _ _ _ _, by repeat (first | (with_reducible first | exact HB.out | apply below_alloc | apply pw_below_drewN | apply below_drew1 | refine below_set ?_ GE228.out | refine below_set ?_ GE229.out | refine below_set ?_ GE238.out | refine below_set ?_ GE256.out) | exact HB.out)⟩
              replace c98 := Bool.eq_false_iff.mpr c98
              subst c98
              have H1 : ((batch_TakeRecord.f kj82 t258).bind fun bt264 => (if bt264.2.2.2.2 = 0 then (if x239005_4.length < 3518437208883 then (wire_DecodeReply.l0 kj82 bt264.2.2.2.1 t253 (wrap64 (x95_4 + 1)) 0 0 0 0 (rd t230 0) (rd t230 1) (rd t230 2) (rd t230 3) t247 (x239005_4 ++ [(⟨t257, (⟨bt264.1, bt264.2.1, bt264.2.2.1⟩ : S57)⟩ : S59)])) else (none)) else (some (0, 0, 0, 0, ([] : List Int), ([] : List (S59)), 2)))) = some (r1, r2, r3, r4, r5, r6, r7) := by rw [if_neg (show ¬ (false = true) by decide)] at H; exact H
              clear H
              have H := H1
              clear H1
              replace H := Option.bind_eq_some_iff.mp H
              obtain ⟨⟨t264, t265, t266, t267, t268⟩, A1060, H⟩ := H
              replace H : (if t268 = 0 then (if x239005_4.length < 3518437208883 then (wire_DecodeReply.l0 kj82 t267 t253 (wrap64 (x95_4 + 1)) 0 0 0 0 (rd t230 0) (rd t230 1) (rd t230 2) (rd t230 3) t247 (x239005_4 ++ [(⟨t257, (⟨t264, t265, t266⟩ : S57)⟩ : S59)])) else (none)) else (some (0, 0, 0, 0, ([] : List Int), ([] : List (S59)), 2))) = some (r1, r2, r3, r4, r5, r6, r7) := H
              have A106 := Aside0.mk A1060
              clear A1060
              by_cases c107 : t268 = 0
              ·rw [if_pos c107] at H
               have c107b0 : (t268 == 0) = true := beq_iff_eq.mpr c107
               have c107b1 : (t268 != 0) = false := bne_eq_false_iff_eq.mpr c107
               clear c107
               by_cases c108 : x239005_4.length < 3518437208883
               ·rw [if_pos c108] at H
                have LMc108 := Aside0.mk c108
                clear c108
                obtain ⟨y269, hy269⟩ : ∃ y_ : List (S59), y_ = (x239005_4 ++ [(⟨t257, (⟨t264, t265, t266⟩ : S57)⟩ : S59)]) := ⟨_, rfl⟩
                replace H : (wire_DecodeReply.l0 kj82 t267 t253 (wrap64 (x95_4 + 1)) 0 0 0 0 (rd t230 0) (rd t230 1) (rd t230 2) (rd t230 3) t247 y269) = some (r1, r2, r3, r4, r5, r6, r7) := by first | (rw [hy269]; with_reducible exact H) | (have H2_ := (Option.bind_some _ _).symm.trans H; rw [hy269]; with_reducible exact H2_) | (have H2_ := (Option.bind_some _ _).symm.trans H; with_reducible exact H2_) | with_reducible exact H | (rw [hy269]; exact H) | exact H
                have Ny269 := Aside0.mk hy269
                clear hy269
                have H' := Aside0.mk H
                clear H
                go_wp2_with (first | ((with_reducible refine gate_callee (f := 26) rfl ?_); refine goesL_ (some 116) rfl rfl Try.func26 (by kernel_rfl) rfl #[.string t258] rfl Zz.g ?_; (with_reducible refine (batch_TakeRecord.calls kj82 t258 t264 t265 t266 t267 t268 _ A106.out).mono ?_); rintro e w109 ⟨rfl, hb⟩; refine ⟨_, rfl, ?_⟩; replace HO_239004 := Aside0.mk (Kd.R_below (Zz.r HO_239004.out) hb); replace HO_239005 := Aside0.mk (Kd.R_below (Zz.r HO_239005.out) hb); replace BK228 := Aside0.mk (Zz.bb BK228.out hb); replace BK229 := Aside0.mk (Zz.bb BK229.out hb); replace BK238 := Aside0.mk (Zz.bb BK238.out hb); replace BK256 := Aside0.mk (Zz.bb BK256.out hb); replace HB := Aside0.mk (below_step (Zz.i HB.out) hb); (try clear hb); have hnb110 := NB256_228.out; have hnc110 := NB228_256.out; have hnb111 := NB256_229.out; have hnc111 := NB229_256.out; have hnb112 := NB256_238.out; have hnc112 := NB238_256.out; have hcz113 := Zz.c4 BK256.out; have hfz113 := blk_frozen BK256.out; have hnb114 := NB238_228.out; have hnc114 := NB228_238.out; have hnb115 := NB238_229.out; have hnc115 := NB229_238.out; have hcz116 := Zz.c6 BK238.out; have hfz116 := blk_frozen BK238.out) | ((with_reducible refine gate_builtin (b := .append) (xs := #[.tmp 125, .tmp 127]) rfl ?_); (try (refine gate_guard (by rfl) ?_; dsimp only)); at_builtin; refine Kd.R_append k59 (w0 := w) w.heap.size rfl (.tmp 125) (.tmp 127) 24 59 (.agg #[(.int .i64 0), (.int .i64 0), (.int .i64 0), (.string ⟨#[]⟩)]) 40 rfl Try.underlying24 info59 rfl (by decide) (by omega) u239005 x239005_4 (⟨t257, (⟨t264, t265, t266⟩ : S57)⟩ : S59) [.int .i64 t257, .int .i64 t264, .int .i64 t265, .string t266] (fun k_ => k_ ≠ gb256) (fun _ => False) rfl (by first | (go_simp; done) | (go_simp; rfl)) ?aP (fun _ hk => hk.elim) ?aF ?aO ?aB ?aS ?aL ?_; (case aP => exact k59_mkM _ _ _ (⟨t257, (⟨t264, t265, t266⟩ : S57)⟩ : S59)); (case aB => exact (Zz.i HB.out)); (case aF => exact (fun k_ hk => Kd.freshB (g := gb256) (o := .cells #[.int .i64 t257, .int .i64 t264, .int .i64 t265, .string t266] 59 (0, 0)) (by (with_reducible repeat (first | refine blk_drewN ?_ _ | refine blk_drew ?_ | refine blk_alloc ?_ _)); exact Zz.u4_1_3 BK256.out) k_ hk)); (case aO => exact (by (with_reducible repeat (first | apply Kd.R_alloc | apply Kd.R_drewN | apply Kd.R_drew)); exact Kd.R_mono (Zz.f3 (Kd.R_mono HO_239005.out (fun k_ hk => (⟨hk, hk⟩ : _ ∧ k_ ≠ gb256))) (fun _ hk => hk.2)) (fun _ hk => hk.1))); (case aS => exact (below_size (Zz.i HB.out))); (case aL => have := LMc108.out; omega); intro v270 w117 ho hb hg hat; rw [← Ny269.out] at ho; have n0_ := Aside0.mk (Kd.R_over' (by (with_reducible repeat (first | apply Kd.R_alloc | apply Kd.R_drewN | apply Kd.R_drew)); exact (Kd.R_mono (Zz.f3 (Kd.R_types HO_239004.out BK256.out (by decide)) (fun _ hk => hk.2)) (fun _ h_ => h_.1))) (Kd.R_typed (by (with_reducible repeat (first | apply Kd.R_alloc | apply Kd.R_drewN | apply Kd.R_drew)); exact (Kd.R_mono (Zz.f3 (Kd.R_mono HO_239005.out (fun k_ hk => (⟨hk, hk⟩ : _ ∧ k_ ≠ gb256))) (fun _ hk => hk.2)) (fun _ h_ => h_.1)))) (by decide) hg); have n1_ := Aside0.mk (blk_grown (g := gb228) (o := .cells #[.int .i64 x229000_4, .int .i64 x229001_4, .int .i64 x229002_4, .int .i64 x229003_4, .slice none 0 0, .slice none 0 0] 26 (0, 0)) (by exact Zz.q3 BK228.out NB228_256.out) hg (Kd.R_ne HO_239005.out BK228.out (by decide))); have n2_ := Aside0.mk (blk_grown (g := gb229) (o := .cells #[.int .i64 0, .int .i64 0, .int .i64 0, .int .i64 0, .slice none 0 0, .slice none 0 0] 26 (0, 0)) (by exact Zz.q3 BK229.out NB229_256.out) hg (Kd.R_ne HO_239005.out BK229.out (by decide))); have n3_ := Aside0.mk (blk_grown (g := gb238) (o := .cells #[.int .i64 (rd t230 0), .int .i64 (rd t230 1), .int .i64 (rd t230 2), .int .i64 (rd t230 3), .slice Ao58 t247.length co58, u239005] 26 (0, 0)) (by exact Zz.q3 BK238.out NB238_256.out) hg (Kd.R_ne HO_239005.out BK238.out (by decide))); have n4_ := Aside0.mk (blk_grown (g := gb256) (o := .cells #[.int .i64 t257, .int .i64 t264, .int .i64 t265, .string t266] 59 (0, 0)) (by (with_reducible repeat (first | refine blk_drewN ?_ _ | refine blk_drew ?_ | refine blk_alloc ?_ _)); exact Zz.u4_1_3 BK256.out) hg (Kd.R_away HO_239005.out (fun _ hk => hk))); have n5_ := Aside0.mk (hb); have n6_ := Aside0.mk (ho); clear HO_239004; clear BK228; clear BK229; clear BK238; clear BK256; clear HB; clear HO_239005; have HO_239004 := n0_; have BK228 := n1_; have BK229 := n2_; have BK238 := n3_; have BK256 := n4_; have HB := n5_; have HO271 := n6_; clear n0_ n1_ n2_ n3_ n4_ n5_ n6_; clear ho hb hg hat; obtain ⟨Ao118, co118, eo118⟩ := Kd.R_slice HO271.out; subst eo118; have hcz119 := Zz.c6 BK238.out; have hfz119 := blk_frozen BK238.out))
                go_roundg kj82
                case measure => have := HJ6.out; have := HJ52.out; have := HJ71.out; have := HK4.out; have := HJ82.out; omega
                case rel => exact ⟨(t267), (wrap64 (x95_4 + 1)), (x229000_4), (x229001_4), (x229002_4), (x229003_4), (y269), (.slice Ao118 y269.length co118), Zz.q, Zz.q, H', ⟨by have := HJ6.out; have := HJ52.out; have := HJ71.out; have := HK4.out; have := HJ82.out; omega⟩, ⟨by (with_reducible repeat (first | apply Kd.R_alloc | apply Kd.R_drewN | apply Kd.R_drew)); exact Kd.R_mono (Kd.R_far (p := ⟨gb238, 5, none⟩) (Kd.R_types HO_239004.out BK238.out (by decide)) (fun _ hk => hk.2) (.slice Ao118 y269.length co118)) (fun _ hk => trivial)⟩, ⟨by (with_reducible repeat (first | apply Kd.R_alloc | apply Kd.R_drewN | apply Kd.R_drew)); exact Kd.R_mono (Kd.R_far (p := ⟨gb238, 5, none⟩) (Kd.R_types HO271.out BK238.out (by decide)) (fun _ hk => hk.2) (.slice Ao118 y269.length co118)) (fun _ hk => trivial)⟩, ⟨Zz.p1 BK228.out NB228_238.out⟩, ⟨Zz.p1 BK229.out NB229_238.out⟩, ⟨by (with_reducible repeat (first | refine blk_drewN ?_ _ | refine blk_drew ?_ | refine blk_alloc ?_ _)); refine blk_put (cs := #[.int .i64 (rd t230 0), .int .i64 (rd t230 1), .int .i64 (rd t230 2), .int .i64 (rd t230 3), .slice Ao58 t247.length co58, u239005]) ?_ 5 _ rfl; (with_reducible repeat (first | refine blk_drewN ?_ _ | refine blk_drew ?_ | refine blk_alloc ?_ _)); exact BK238.out⟩, ⟨by repeat (first | (with_reducible first | exact HB.out | apply below_alloc | apply pw_below_drewN | apply below_drew1 | refine below_set ?_ GE228.out | refine below_set ?_ GE229.out | refine below_set ?_ GE238.out | refine below_set ?_ GE256.out) | exact HB.out)⟩⟩
               rw [if_neg c108] at H
               exact absurd H (by simp)
              rw [if_neg c107] at H
              have c107b0 : (t268 == 0) = false := beq_eq_false_iff_ne.mpr c107
              have c107b1 : (t268 != 0) = true := bne_iff_ne.mpr c107
              simp only [Option.some.injEq, Prod.mk.injEq] at H
              obtain ⟨rfl, rfl, rfl, rfl, rfl, rfl, rfl⟩ := H
              go_wp2_with (first | ((with_reducible refine gate_callee (f := 26) rfl ?_); refine goesL_ (some 116) rfl rfl Try.func26 (by kernel_rfl) rfl #[.string t258] rfl Zz.g ?_; (with_reducible refine (batch_TakeRecord.calls kj82 t258 t264 t265 t266 t267 t268 _ A106.out).mono ?_); rintro e w120 ⟨rfl, hb⟩; refine ⟨_, rfl, ?_⟩; replace HO_239004 := Aside0.mk (Kd.R_below (Zz.r HO_239004.out) hb); replace HO_239005 := Aside0.mk (Kd.R_below (Zz.r HO_239005.out) hb); replace BK228 := Aside0.mk (Zz.bb BK228.out hb); replace BK229 := Aside0.mk (Zz.bb BK229.out hb); replace BK238 := Aside0.mk (Zz.bb BK238.out hb); replace BK256 := Aside0.mk (Zz.bb BK256.out hb); replace HB := Aside0.mk (below_step (Zz.i HB.out) hb); (try clear hb); have hnb121 := NB256_228.out; have hnc121 := NB228_256.out; have hnb122 := NB256_229.out; have hnc122 := NB229_256.out; have hnb123 := NB256_238.out; have hnc123 := NB238_256.out; have hcz124 := Zz.c4 BK256.out; have hfz124 := blk_frozen BK256.out; have hnb125 := NB229_228.out; have hnc125 := NB228_229.out; have hnb126 := NB229_238.out; have hnc126 := NB238_229.out; have hcz127 := Zz.c6 BK229.out; have hfz127 := blk_frozen BK229.out; have hnb128 := NB228_238.out; have hnc128 := NB238_228.out; have hcz129 := Zz.c6 BK228.out; have hfz129 := blk_frozen BK228.out))
              refine bodyPost_ret (results_ct rfl _ _ gb228 26 #[.int .i64 0, .int .i64 0, .int .i64 0, .int .i64 0, .slice none 0 0, .slice none 0 0] (0, 0) _ rfl (by (with_reducible repeat (first | refine blk_drewN ?_ _ | refine blk_drew ?_ | refine blk_alloc ?_ _)); refine blk_put (cs := #[.int .i64 0, .int .i64 0, .int .i64 0, .int .i64 0, .slice none 0 0, .slice none 0 0]) ?_ 5 _ rfl; (with_reducible repeat (first | refine blk_drewN ?_ _ | refine blk_drew ?_ | refine blk_alloc ?_ _)); refine blk_put (cs := #[.int .i64 0, .int .i64 0, .int .i64 0, .int .i64 0, .slice none 0 0, .slice none 0 0]) ?_ 4 _ rfl; (with_reducible repeat (first | refine blk_drewN ?_ _ | refine blk_drew ?_ | refine blk_alloc ?_ _)); refine blk_put (cs := #[.int .i64 0, .int .i64 0, .int .i64 0, .int .i64 x229003_4, .slice none 0 0, .slice none 0 0]) ?_ 3 _ rfl; (with_reducible repeat (first | refine blk_drewN ?_ _ | refine blk_drew ?_ | refine blk_alloc ?_ _)); refine blk_put (cs := #[.int .i64 0, .int .i64 0, .int .i64 x229002_4, .int .i64 x229003_4, .slice none 0 0, .slice none 0 0]) ?_ 2 _ rfl; (with_reducible repeat (first | refine blk_drewN ?_ _ | refine blk_drew ?_ | refine blk_alloc ?_ _)); refine blk_put (cs := #[.int .i64 0, .int .i64 x229001_4, .int .i64 x229002_4, .int .i64 x229003_4, .slice none 0 0, .slice none 0 0]) ?_ 1 _ rfl; (with_reducible repeat (first | refine blk_drewN ?_ _ | refine blk_drew ?_ | refine blk_alloc ?_ _)); refine blk_put (cs := #[.int .i64 x229000_4, .int .i64 x229001_4, .int .i64 x229002_4, .int .i64 x229003_4, .slice none 0 0, .slice none 0 0]) ?_ 0 _ rfl; (with_reducible repeat (first | refine blk_drewN ?_ _ | refine blk_drew ?_ | refine blk_alloc ?_ _)); refine blk_far ?_ NB228_256.out _; (with_reducible repeat (first | refine blk_drewN ?_ _ | refine blk_drew ?_ | refine blk_alloc ?_ _)); refine blk_far ?_ NB228_256.out _; (with_reducible repeat (first | refine blk_drewN ?_ _ | refine blk_drew ?_ | refine blk_alloc ?_ _)); refine blk_far ?_ NB228_256.out _; (with_reducible repeat (first | refine blk_drewN ?_ _ | refine blk_drew ?_ | refine blk_alloc ?_ _)); exact BK228.out) Try.underlying26 rfl (by kernel_rfl)) rfl ?_
              exact ⟨_, _, by first | rfl | (simp [errW_none, errW_some] <;> rfl) | (simp [*, errW_none, errW_some] <;> rfl), by first | exact Kd.R_nil _ _ _ _ _ | exact Kd.N_nil _ _ _ _ _ | exact Kd.V_nil _ _ _ _ _ | exact Kd.Q_nil _ _ _ _ _ | exact Kd.S_nil _ _ _ _ _, by first | exact Kd.R_nil _ _ _ _ _ | exact Kd.N_nil _ _ _ _ _ | exact Kd.V_nil _ _ _ _ _ | exact Kd.Q_nil _ _ _ _ _ | exact Kd.S_nil _ _ _ _ _, by repeat (first | (with_reducible first | exact HB.out | apply below_alloc | apply pw_below_drewN | apply below_drew1 | refine below_set ?_ GE228.out | refine below_set ?_ GE229.out | refine below_set ?_ GE238.out | refine below_set ?_ GE256.out) | exact HB.out)⟩
            rw [if_neg c81] at H
            have c81b0 : decide (x95_4 < t253) = false := decide_eq_false c81
            clear c81
            by_cases c130 : x6_4.toList = ([] : List UInt8)
            ·rw [if_pos c130] at H
             have c130b0 : (x6_4.toList == ([] : List UInt8)) = true := beq_iff_eq.mpr c130
             try (have c130b9 : x6_4.toList.isEmpty = true := List.isEmpty_iff.mpr (beq_iff_eq.mp c130b0))
             have c130b1 : (x6_4.toList != ([] : List UInt8)) = false := bne_eq_false_iff_eq.mpr c130
             clear c130
             simp only [Option.some.injEq, Prod.mk.injEq] at H
             obtain ⟨rfl, rfl, rfl, rfl, rfl, rfl, rfl⟩ := H
             have hnb131 := NB238_228.out
             have hnc131 := NB228_238.out
             have hnb132 := NB238_229.out
             have hnc132 := NB229_238.out
             have hcz133 := Zz.c6 BK238.out
             have hfz133 := blk_frozen BK238.out
             have hnb134 := NB228_229.out
             have hnc134 := NB229_228.out
             have hcz135 := Zz.c6 BK228.out
             have hfz135 := blk_frozen BK228.out
             obtain ⟨Ao136, co136, eo136⟩ := Kd.R_slice HO_239005.out
             subst eo136
             go_wp2
             refine bodyPost_ret (results_ct rfl _ _ gb228 26 #[.int .i64 (rd t230 0), .int .i64 (rd t230 1), .int .i64 (rd t230 2), .int .i64 (rd t230 3), .slice Ao58 t247.length co58, .slice Ao136 x239005_4.length co136] (0, 0) _ rfl (by (with_reducible repeat (first | refine blk_drewN ?_ _ | refine blk_drew ?_ | refine blk_alloc ?_ _)); exact Zz.u6_0_5 BK228.out) Try.underlying26 rfl (by kernel_rfl)) rfl ?_
             exact ⟨_, _, by first | rfl | (simp [errW_none, errW_some] <;> rfl) | (simp [*, errW_none, errW_some] <;> rfl), by (with_reducible repeat (first | apply Kd.R_alloc | apply Kd.R_drewN | apply Kd.R_drew)); exact Kd.R_mono (Zz.f6 (Kd.R_types HO_239004.out BK228.out (by decide)) (fun _ hk => hk.2)) (fun _ hk => trivial), by (with_reducible repeat (first | apply Kd.R_alloc | apply Kd.R_drewN | apply Kd.R_drew)); exact Kd.R_mono (Zz.f6 (Kd.R_types HO_239005.out BK228.out (by decide)) (fun _ hk => hk.2)) (fun _ hk => trivial), by repeat (first | (with_reducible first | exact HB.out | apply below_alloc | apply pw_below_drewN | apply below_drew1 | refine below_set ?_ GE228.out | refine below_set ?_ GE229.out | refine below_set ?_ GE238.out) | exact HB.out)⟩
            rw [if_neg c130] at H
            have c130b0 : (x6_4.toList == ([] : List UInt8)) = false := beq_eq_false_iff_ne.mpr c130
            try (have c130b9 : x6_4.toList.isEmpty = false := by rw [List.isEmpty_eq_false_iff]; exact beq_eq_false_iff_ne.mp c130b0)
            have c130b1 : (x6_4.toList != ([] : List UInt8)) = true := bne_iff_ne.mpr c130
            simp only [Option.some.injEq, Prod.mk.injEq] at H
            obtain ⟨rfl, rfl, rfl, rfl, rfl, rfl, rfl⟩ := H
            have hnb137 := NB229_228.out
            have hnc137 := NB228_229.out
            have hnb138 := NB229_238.out
            have hnc138 := NB238_229.out
            have hcz139 := Zz.c6 BK229.out
            have hfz139 := blk_frozen BK229.out
            have hnb140 := NB228_238.out
            have hnc140 := NB238_228.out
            have hcz141 := Zz.c6 BK228.out
            have hfz141 := blk_frozen BK228.out
            go_wp2
            refine bodyPost_ret (results_ct rfl _ _ gb228 26 #[.int .i64 0, .int .i64 0, .int .i64 0, .int .i64 0, .slice none 0 0, .slice none 0 0] (0, 0) _ rfl (by (with_reducible repeat (first | refine blk_drewN ?_ _ | refine blk_drew ?_ | refine blk_alloc ?_ _)); exact Zz.u6_0_5 BK228.out) Try.underlying26 rfl (by kernel_rfl)) rfl ?_
            exact ⟨_, _, by first | rfl | (simp [errW_none, errW_some] <;> rfl) | (simp [*, errW_none, errW_some] <;> rfl), by first | exact Kd.R_nil _ _ _ _ _ | exact Kd.N_nil _ _ _ _ _ | exact Kd.V_nil _ _ _ _ _ | exact Kd.Q_nil _ _ _ _ _ | exact Kd.S_nil _ _ _ _ _, by first | exact Kd.R_nil _ _ _ _ _ | exact Kd.N_nil _ _ _ _ _ | exact Kd.V_nil _ _ _ _ _ | exact Kd.Q_nil _ _ _ _ _ | exact Kd.S_nil _ _ _ _ _, by repeat (first | (with_reducible first | exact HB.out | apply below_alloc | apply pw_below_drewN | apply below_drew1 | refine below_set ?_ GE228.out | refine below_set ?_ GE229.out | refine below_set ?_ GE238.out) | exact HB.out)⟩
       rw [if_neg c51] at H
       exact absurd H (by simp)
      rw [if_neg c50] at H
      exact absurd H (by simp)
    rw [if_neg c6] at H
    exact absurd H (by simp)
   rw [if_neg c5] at H
   exact absurd H (by simp)
  rw [if_neg c4] at H
  exact absurd H (by simp)
 rw [if_neg c3] at H
 have c3b0 : (t232 == 0) = false := beq_eq_false_iff_ne.mpr c3
 have c3b1 : (t232 != 0) = true := bne_iff_ne.mpr c3
 simp only [Option.some.injEq, Prod.mk.injEq] at H
 obtain ⟨rfl, rfl, rfl, rfl, rfl, rfl, rfl⟩ := H
 go_enter Try.func12, Try.ntmps12
 go_wp2_with (first | ((with_reducible refine gate_dst (N := 2) rfl ?_); (try (refine gate_guard (by rfl) ?_; dsimp only)); refine box_event ?hg (N := 2) ?hd (cs := #[.int .i64 0, .int .i64 0, .int .i64 0, .int .i64 0, .slice none 0 0, .slice none 0 0]) (t := 26) ?hr ?_; (case hd => rfl); (case hg => rfl); (case hr => first | (go_simp; done) | (go_simp; rfl)); intro gb228 hg w142 hbox hb; have BK228 := Aside0.mk (hbox); have GW228 := Aside0.mk (Zz.ge hg HB.out); have GE228 := Aside0.mk (Zz.ge hg HB.out); replace HB := Aside0.mk (below_step (Zz.i HB.out) hb); clear hb hbox hg) | ((with_reducible refine gate_dst (N := 4) rfl ?_); (try (refine gate_guard (by rfl) ?_; dsimp only)); refine box_event ?hg (N := 4) ?hd (cs := #[.int .i64 0, .int .i64 0, .int .i64 0, .int .i64 0, .slice none 0 0, .slice none 0 0]) (t := 26) ?hr ?_; (case hd => rfl); (case hg => rfl); (case hr => first | (go_simp; done) | (go_simp; rfl)); intro gb229 hg w143 hbox hb; have BK229 := Aside0.mk (hbox); have GW229 := Aside0.mk (Zz.ge hg HB.out); have GE229 := Aside0.mk (Zz.ge hg HB.out); replace HB := Aside0.mk (below_step (Zz.i HB.out) hb); have NB228_229 := Aside0.mk (Zz.nl hg BK228.out); have NB229_228 := Aside0.mk (Zz.ng hg BK228.out); replace BK228 := Aside0.mk (Zz.bb BK228.out hb); clear hb hbox hg; have hnb144 := NB229_228.out; have hnc144 := NB228_229.out; have hcz145 := Zz.c6 BK229.out; have hfz145 := blk_frozen BK229.out) | ((with_reducible refine gate_callee (f := 32) rfl ?_); refine goesL_ (some 14) rfl rfl Try.func32 (by kernel_rfl) rfl #[.string a0, .int .i64 5] rfl Zz.g ?_; (with_reducible refine (varint_TakeAll.calls k a0 5 t230 t231 t232 _ A2.out).mono ?_); rintro e w146 ⟨v233, rfl, ho0, hb⟩; refine ⟨_, rfl, ?_⟩; have n0_ := Aside0.mk (Kd.R_lower ho0 (below_size (Zz.i HB.out))); have n1_ := Aside0.mk (blk_below (g := gb228) (o := .cells #[.int .i64 0, .int .i64 0, .int .i64 0, .int .i64 0, .slice none 0 0, .slice none 0 0] 26 (0, 0)) (by exact Zz.q6 BK228.out NB228_229.out) hb); have n2_ := Aside0.mk (blk_below (g := gb229) (o := .cells #[.int .i64 0, .int .i64 0, .int .i64 0, .int .i64 0, .slice none 0 0, .slice none 0 0] 26 (0, 0)) (by (with_reducible repeat (first | refine blk_drewN ?_ _ | refine blk_drew ?_ | refine blk_alloc ?_ _)); exact Zz.u6_0_5 BK229.out) hb); have n3_ := Aside0.mk (below_step (Zz.i HB.out) hb); clear BK228; clear BK229; clear HB; have HO234 := n0_; have BK228 := n1_; have BK229 := n2_; have HB := n3_; clear n0_ n1_ n2_ n3_; (try clear hb); (try clear ho0); have hcz147 := Zz.c6 BK229.out; have hfz147 := blk_frozen BK229.out; have hcz148 := Zz.c6 BK228.out; have hfz148 := blk_frozen BK228.out))
 refine bodyPost_ret (results_ct rfl _ _ gb228 26 #[.int .i64 0, .int .i64 0, .int .i64 0, .int .i64 0, .slice none 0 0, .slice none 0 0] (0, 0) _ rfl (by (with_reducible repeat (first | refine blk_drewN ?_ _ | refine blk_drew ?_ | refine blk_alloc ?_ _)); exact Zz.u6_0_5 BK228.out) Try.underlying26 rfl (by kernel_rfl)) rfl ?_
 exact ⟨_, _, by first | rfl | (simp [errW_none, errW_some] <;> rfl) | (simp [*, errW_none, errW_some] <;> rfl), by first | exact Kd.R_nil _ _ _ _ _ | exact Kd.N_nil _ _ _ _ _ | exact Kd.V_nil _ _ _ _ _ | exact Kd.Q_nil _ _ _ _ _ | exact Kd.S_nil _ _ _ _ _, by first | exact Kd.R_nil _ _ _ _ _ | exact Kd.N_nil _ _ _ _ _ | exact Kd.V_nil _ _ _ _ _ | exact Kd.Q_nil _ _ _ _ _ | exact Kd.S_nil _ _ _ _ _, by repeat (first | (with_reducible first | exact HB.out | apply below_alloc | apply pw_below_drewN | apply below_drew1 | refine below_set ?_ GE228.out | refine below_set ?_ GE229.out) | exact HB.out)⟩

end Go.Proofs.Ytikbpjdgihheiaa.P
