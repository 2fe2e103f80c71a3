-- Written by wip/mk.py of this repo: the kit's print program, with contracts of our own among its functions (merge.py: Px39).
import Derived.Test.YtikbpjdgihheiaaM0
import Derived.Test.YtikbpjdgihheiaaM14
import Derived.Test.YtikbpjdgihheiaaM9
import Derived.Test.YtikbpjdgihheiaaM10
import Derived.Test.YtikbpjdgihheiaaM15
import Derived.Test.YtikbpjdgihheiaaM17
import Derived.Test.YtikbpjdgihheiaaKs
import Derived.Test.YtikbpjdgihheiaaZz
import Derived.Test.YtikbpjdgihheiaaZr
section
namespace Go.Proofs.Ytikbpjdgihheiaa.P
open Go.RowKit Go.Proofs.YtikbpjdgihheiaaW.PrintWords Go.Proofs.YtikbpjdgihheiaaW.PrintLast Go.Proofs.YtikbpjdgihheiaaW.PrintMore
attribute [local go_sem] max2_int min2_int max_two min_two max_three min_three max_four min_four   -- for this text's walks alone
attribute [local go_sem ↓] Kp.LDAsk_in Ks.STAsk_in
attribute [local go_sem] Kp.LDAsk_run Ks.STAsk_run
set_option linter.unusedVariables false
set_option linter.unusedSimpArgs false

/-! ### headgateref18_DecodeAsk: function 19 -/
theorem headgateref18_DecodeAsk.far18 {W : World} {g : Nat} {a : Addr} {x : Option Value} (h : a.block ≠ g) {o0 o1 o2 o3 o4 o5 o6 o7 o8 o9 o10 o11 o12 o13 o14 o15 o16 o17 : Nat} {v0 v1 v2 v3 v4 v5 v6 v7 v8 v9 v10 v11 v12 v13 v14 v15 v16 v17 : Value} (e : W.cell? a = x) : ((((((((((((((((((W.setCell ⟨g, o0, none⟩ v0).setCell ⟨g, o1, none⟩ v1).setCell ⟨g, o2, none⟩ v2).setCell ⟨g, o3, none⟩ v3).setCell ⟨g, o4, none⟩ v4).setCell ⟨g, o5, none⟩ v5).setCell ⟨g, o6, none⟩ v6).setCell ⟨g, o7, none⟩ v7).setCell ⟨g, o8, none⟩ v8).setCell ⟨g, o9, none⟩ v9).setCell ⟨g, o10, none⟩ v10).setCell ⟨g, o11, none⟩ v11).setCell ⟨g, o12, none⟩ v12).setCell ⟨g, o13, none⟩ v13).setCell ⟨g, o14, none⟩ v14).setCell ⟨g, o15, none⟩ v15).setCell ⟨g, o16, none⟩ v16).setCell ⟨g, o17, none⟩ v17).cell? a = x := ((cell_far (p := ⟨g, o17, none⟩) h v17).trans ((cell_far (p := ⟨g, o16, none⟩) h v16).trans ((cell_far (p := ⟨g, o15, none⟩) h v15).trans ((cell_far (p := ⟨g, o14, none⟩) h v14).trans ((cell_far (p := ⟨g, o13, none⟩) h v13).trans ((cell_far (p := ⟨g, o12, none⟩) h v12).trans ((cell_far (p := ⟨g, o11, none⟩) h v11).trans ((cell_far (p := ⟨g, o10, none⟩) h v10).trans ((cell_far (p := ⟨g, o9, none⟩) h v9).trans ((cell_far (p := ⟨g, o8, none⟩) h v8).trans ((cell_far (p := ⟨g, o7, none⟩) h v7).trans ((cell_far (p := ⟨g, o6, none⟩) h v6).trans ((cell_far (p := ⟨g, o5, none⟩) h v5).trans ((cell_far (p := ⟨g, o4, none⟩) h v4).trans ((cell_far (p := ⟨g, o3, none⟩) h v3).trans ((cell_far (p := ⟨g, o2, none⟩) h v2).trans ((cell_far (p := ⟨g, o1, none⟩) h v1).trans ((cell_far (p := ⟨g, o0, none⟩) h v0).trans e))))))))))))))))))
mutual
def headgateref18_DecodeAsk.j0 : Nat → List Int → List Int → List Int → ByteArray → Bool → Int → Int → Int → Int → Int → Int → Int → Int → Int → Int → Int → Int → Bool → Int → Int → Int → Int → Option (Int × Int × Int × Int × Int × Int × Int × Int × Int × Int × Int × Int × Bool × Int × Int × Int × Int × (List (S57)) × Int)
  | 0, _, _, _, _, _, _, _, _, _, _, _, _, _, _, _, _, _, _, _, _, _, _ => none
  | k + 1, x5, x8, x9, x10, x48, x561000, x561001, x561002, x561003, x561004, x561005, x561006, x561007, x561008, x561009, x561010, x561011, x561012, x561013, x561014, x561015, x561016 => if x48 = true then (some (x561000, x561001, x561002, x561003, x561004, x561005, x561006, x561007, x561008, x561009, x561010, x561011, x561012, x561013, x561014, x561015, x561016, ([] : List (S57)), 2)) else (headgateref18_DecodeAsk.l0 k x5 x8 x9 x10 (([0, 0, 0, 0, 0, 0, 0, 0, 0, 0, 0] : List Int)) 0 x561000 x561001 x561002 x561003 x561004 x561005 x561006 x561007 x561008 x561009 x561010 x561011 x561012 x561013 x561014 x561015 x561016)
def headgateref18_DecodeAsk.l0 : Nat → List Int → List Int → List Int → ByteArray → List Int → Int → Int → Int → Int → Int → Int → Int → Int → Int → Int → Int → Int → Int → Bool → Int → Int → Int → Int → Option (Int × Int × Int × Int × Int × Int × Int × Int × Int × Int × Int × Int × Bool × Int × Int × Int × Int × (List (S57)) × Int)
  | 0, _, _, _, _, _, _, _, _, _, _, _, _, _, _, _, _, _, _, _, _, _, _, _ => none
  | k + 1, x5, x8, x9, x10, x12, x13, x561000, x561001, x561002, x561003, x561004, x561005, x561006, x561007, x561008, x561009, x561010, x561011, x561012, x561013, x561014, x561015, x561016 => if x13 < (x8.length : Int) then (if 0 ≤ x13 then (if x13 < (x9.length : Int) then (if 0 ≤ (rd x8 x13) then (if (rd x8 x13) < (x12.length : Int) then (headgateref18_DecodeAsk.l0 k x5 x8 x9 x10 (x12.set ((rd x8 x13) : Int).toNat (rd x9 x13)) (wrap64 (x13 + 1)) x561000 x561001 x561002 x561003 x561004 x561005 x561006 x561007 x561008 x561009 x561010 x561011 x561012 x561013 x561014 x561015 x561016) else (none)) else (none)) else (none)) else (none)) else (if 0 < (x5.length : Int) then (if 1 < (x5.length : Int) then ((headgateref18_of.f (rd x5 0) (rd x5 1) x12).bind fun bt583 => (headgateref18_DecodeAsk.j2 k x10 x12 (bt583.1 == 3) x561000 x561001 x561002 x561003 x561004 x561005 x561006 x561007 x561008 x561009 x561010 x561011 x561012 x561013 x561014 x561015 x561016 bt583.1 bt583.2.1 bt583.2.2.1 bt583.2.2.2.1 bt583.2.2.2.2.1 bt583.2.2.2.2.2.1 bt583.2.2.2.2.2.2.1 bt583.2.2.2.2.2.2.2.1 bt583.2.2.2.2.2.2.2.2.1 bt583.2.2.2.2.2.2.2.2.2.1 bt583.2.2.2.2.2.2.2.2.2.2.1 bt583.2.2.2.2.2.2.2.2.2.2.2.1 bt583.2.2.2.2.2.2.2.2.2.2.2.2.1 bt583.2.2.2.2.2.2.2.2.2.2.2.2.2.1 bt583.2.2.2.2.2.2.2.2.2.2.2.2.2.2.1 bt583.2.2.2.2.2.2.2.2.2.2.2.2.2.2.2.1 bt583.2.2.2.2.2.2.2.2.2.2.2.2.2.2.2.2.1 bt583.2.2.2.2.2.2.2.2.2.2.2.2.2.2.2.2.2)) else (none)) else (none))
def headgateref18_DecodeAsk.j2 : Nat → ByteArray → List Int → Bool → Int → Int → Int → Int → Int → Int → Int → Int → Int → Int → Int → Int → Bool → Int → Int → Int → Int → Int → Int → Int → Int → Int → Int → Int → Int → Int → Int → Int → Int → Bool → Int → Int → Int → Int → List (S57) → Option (Int × Int × Int × Int × Int × Int × Int × Int × Int × Int × Int × Int × Bool × Int × Int × Int × Int × (List (S57)) × Int)
  | 0, _, _, _, _, _, _, _, _, _, _, _, _, _, _, _, _, _, _, _, _, _, _, _, _, _, _, _, _, _, _, _, _, _, _, _, _, _, _ => none
  | k + 1, x10, x12, x77, x561000, x561001, x561002, x561003, x561004, x561005, x561006, x561007, x561008, x561009, x561010, x561011, x561012, x561013, x561014, x561015, x561016, x604000, x604001, x604002, x604003, x604004, x604005, x604006, x604007, x604008, x604009, x604010, x604011, x604012, x604013, x604014, x604015, x604016, x604017 => if x77 = true then ((headgateref01_TakeText.f k x10 (x10.size : Int)).bind fun bt604 => ((headgateref06_Decode.f k bt604.1).bind fun bt607 => (if bt604.2.2 = 0 then (headgateref18_DecodeAsk.j3 k x12 bt604.2.1 (bt607.2.2.2.2.2 != 0) x561000 x561001 x561002 x561003 x561004 x561005 x561006 x561007 x561008 x561009 x561010 x561011 x561012 x561013 x561014 x561015 x561016 x604000 x604001 x604002 x604003 x604004 x604005 x604006 x604007 x604008 x604009 x604010 x604011 x604012 x604013 x604014 x604015 x604016 x604017 bt607.1 bt607.2.1 bt607.2.2.1 bt607.2.2.2.1 bt607.2.2.2.2.1) else (headgateref18_DecodeAsk.j3 k x12 bt604.2.1 true x561000 x561001 x561002 x561003 x561004 x561005 x561006 x561007 x561008 x561009 x561010 x561011 x561012 x561013 x561014 x561015 x561016 x604000 x604001 x604002 x604003 x604004 x604005 x604006 x604007 x604008 x604009 x604010 x604011 x604012 x604013 x604014 x604015 x604016 x604017 bt607.1 bt607.2.1 bt607.2.2.1 bt607.2.2.2.1 bt607.2.2.2.2.1)))) else (if (x10.size : Int) > 0 then (headgateref18_DecodeAsk.j5 k true x561000 x561001 x561002 x561003 x561004 x561005 x561006 x561007 x561008 x561009 x561010 x561011 x561012 x561013 x561014 x561015 x561016 x604000 x604001 x604002 x604003 x604004 x604005 x604006 x604007 x604008 x604009 x604010 x604011 x604012 x604013 x604014 x604015 x604016 x604017) else (if 10 < (x12.length : Int) then (if (rd x12 10) < 0 then (headgateref18_DecodeAsk.j5 k true x561000 x561001 x561002 x561003 x561004 x561005 x561006 x561007 x561008 x561009 x561010 x561011 x561012 x561013 x561014 x561015 x561016 x604000 x604001 x604002 x604003 x604004 x604005 x604006 x604007 x604008 x604009 x604010 x604011 x604012 x604013 x604014 x604015 x604016 x604017) else (if (rd x12 10) > 1 then (headgateref18_DecodeAsk.j5 k true x561000 x561001 x561002 x561003 x561004 x561005 x561006 x561007 x561008 x561009 x561010 x561011 x561012 x561013 x561014 x561015 x561016 x604000 x604001 x604002 x604003 x604004 x604005 x604006 x604007 x604008 x604009 x604010 x604011 x604012 x604013 x604014 x604015 x604016 x604017) else ((headgateref18_MayAsk.f k x604000 x604001 x604002 x604003 x604004 x604005 x604006 x604007 x604008 x604009 x604010 x604011 x604012 x604013 x604014 x604015 x604016 x604017).bind fun t621 => (headgateref18_DecodeAsk.j5 k (!t621) x561000 x561001 x561002 x561003 x561004 x561005 x561006 x561007 x561008 x561009 x561010 x561011 x561012 x561013 x561014 x561015 x561016 x604000 x604001 x604002 x604003 x604004 x604005 x604006 x604007 x604008 x604009 x604010 x604011 x604012 x604013 x604014 x604015 x604016 x604017)))) else (none)))
def headgateref18_DecodeAsk.j3 : Nat → List Int → ByteArray → Bool → Int → Int → Int → Int → Int → Int → Int → Int → Int → Int → Int → Int → Bool → Int → Int → Int → Int → Int → Int → Int → Int → Int → Int → Int → Int → Int → Int → Int → Int → Bool → Int → Int → Int → Int → List (S57) → Int → Int → Int → Int → List (S57) → Option (Int × Int × Int × Int × Int × Int × Int × Int × Int × Int × Int × Int × Bool × Int × Int × Int × Int × (List (S57)) × Int)
  | 0, _, _, _, _, _, _, _, _, _, _, _, _, _, _, _, _, _, _, _, _, _, _, _, _, _, _, _, _, _, _, _, _, _, _, _, _, _, _, _, _, _, _, _ => none
  | k + 1, x12, x16, x96, x561000, x561001, x561002, x561003, x561004, x561005, x561006, x561007, x561008, x561009, x561010, x561011, x561012, x561013, x561014, x561015, x561016, x604000, x604001, x604002, x604003, x604004, x604005, x604006, x604007, x604008, x604009, x604010, x604011, x604012, x604013, x604014, x604015, x604016, x604017, x616000, x616001, x616002, x616003, x616004 => if x96 = true then (some (x561000, x561001, x561002, x561003, x561004, x561005, x561006, x561007, x561008, x561009, x561010, x561011, x561012, x561013, x561014, x561015, x561016, ([] : List (S57)), 2)) else (if (x16.size : Int) > 0 then (headgateref18_DecodeAsk.j4 k true x561000 x561001 x561002 x561003 x561004 x561005 x561006 x561007 x561008 x561009 x561010 x561011 x561012 x561013 x561014 x561015 x561016 x604000 x604001 x604002 x604003 x604004 x604005 x604006 x604007 x604008 x604009 x604010 x604011 x604012 x616000 x616001 x616002 x616003 x616004) else (if 10 < (x12.length : Int) then (if (rd x12 10) < 0 then (headgateref18_DecodeAsk.j4 k true x561000 x561001 x561002 x561003 x561004 x561005 x561006 x561007 x561008 x561009 x561010 x561011 x561012 x561013 x561014 x561015 x561016 x604000 x604001 x604002 x604003 x604004 x604005 x604006 x604007 x604008 x604009 x604010 x604011 x604012 x616000 x616001 x616002 x616003 x616004) else (if (rd x12 10) > 1 then (headgateref18_DecodeAsk.j4 k true x561000 x561001 x561002 x561003 x561004 x561005 x561006 x561007 x561008 x561009 x561010 x561011 x561012 x561013 x561014 x561015 x561016 x604000 x604001 x604002 x604003 x604004 x604005 x604006 x604007 x604008 x604009 x604010 x604011 x604012 x616000 x616001 x616002 x616003 x616004) else ((headgateref18_MayAsk.f k x604000 x604001 x604002 x604003 x604004 x604005 x604006 x604007 x604008 x604009 x604010 x604011 x604012 x616000 x616001 x616002 x616003 x616004).bind fun t618 => (headgateref18_DecodeAsk.j4 k (!t618) x561000 x561001 x561002 x561003 x561004 x561005 x561006 x561007 x561008 x561009 x561010 x561011 x561012 x561013 x561014 x561015 x561016 x604000 x604001 x604002 x604003 x604004 x604005 x604006 x604007 x604008 x604009 x604010 x604011 x604012 x616000 x616001 x616002 x616003 x616004)))) else (none)))
def headgateref18_DecodeAsk.j4 : Nat → Bool → Int → Int → Int → Int → Int → Int → Int → Int → Int → Int → Int → Int → Bool → Int → Int → Int → Int → Int → Int → Int → Int → Int → Int → Int → Int → Int → Int → Int → Int → Bool → Int → Int → Int → Int → List (S57) → Option (Int × Int × Int × Int × Int × Int × Int × Int × Int × Int × Int × Int × Bool × Int × Int × Int × Int × (List (S57)) × Int)
  | 0, _, _, _, _, _, _, _, _, _, _, _, _, _, _, _, _, _, _, _, _, _, _, _, _, _, _, _, _, _, _, _, _, _, _, _, _ => none
  | k + 1, x120, x561000, x561001, x561002, x561003, x561004, x561005, x561006, x561007, x561008, x561009, x561010, x561011, x561012, x561013, x561014, x561015, x561016, x604000, x604001, x604002, x604003, x604004, x604005, x604006, x604007, x604008, x604009, x604010, x604011, x604012, x604013, x604014, x604015, x604016, x604017 => if x120 = true then (some (x561000, x561001, x561002, x561003, x561004, x561005, x561006, x561007, x561008, x561009, x561010, x561011, x561012, x561013, x561014, x561015, x561016, ([] : List (S57)), 2)) else (some (x604000, x604001, x604002, x604003, x604004, x604005, x604006, x604007, x604008, x604009, x604010, x604011, x604012, x604013, x604014, x604015, x604016, x604017, 0))
def headgateref18_DecodeAsk.j5 : Nat → Bool → Int → Int → Int → Int → Int → Int → Int → Int → Int → Int → Int → Int → Bool → Int → Int → Int → Int → Int → Int → Int → Int → Int → Int → Int → Int → Int → Int → Int → Int → Bool → Int → Int → Int → Int → List (S57) → Option (Int × Int × Int × Int × Int × Int × Int × Int × Int × Int × Int × Int × Bool × Int × Int × Int × Int × (List (S57)) × Int)
  | 0, _, _, _, _, _, _, _, _, _, _, _, _, _, _, _, _, _, _, _, _, _, _, _, _, _, _, _, _, _, _, _, _, _, _, _, _ => none
  | k + 1, x120, x561000, x561001, x561002, x561003, x561004, x561005, x561006, x561007, x561008, x561009, x561010, x561011, x561012, x561013, x561014, x561015, x561016, x604000, x604001, x604002, x604003, x604004, x604005, x604006, x604007, x604008, x604009, x604010, x604011, x604012, x604013, x604014, x604015, x604016, x604017 => if x120 = true then (some (x561000, x561001, x561002, x561003, x561004, x561005, x561006, x561007, x561008, x561009, x561010, x561011, x561012, x561013, x561014, x561015, x561016, ([] : List (S57)), 2)) else (some (x604000, x604001, x604002, x604003, x604004, x604005, x604006, x604007, x604008, x604009, x604010, x604011, x604012, x604013, x604014, x604015, x604016, x604017, 0))
end
def headgateref18_DecodeAsk.f (k : Nat) (a0 : ByteArray) : Option (Int × Int × Int × Int × Int × Int × Int × Int × Int × Int × Int × Int × Bool × Int × Int × Int × Int × (List (S57)) × Int) := (headgateref01_TakeAll.f k a0 2).bind fun bt561 => (if bt561.2.2 = 0 then (if 0 < (bt561.1.length : Int) then ((headgateref18_which.f k (rd bt561.1 0)).bind fun t567 => ((headgateref01_TakeAll.f k bt561.2.1 (t567.length : Int)).bind fun bt570 => (if (t567.length : Int) = 0 then (headgateref18_DecodeAsk.j0 k bt561.1 t567 bt570.1 bt570.2.1 true 0 0 0 0 0 0 0 0 0 0 0 0 false 0 0 0 0) else (headgateref18_DecodeAsk.j0 k bt561.1 t567 bt570.1 bt570.2.1 (bt570.2.2 != 0) 0 0 0 0 0 0 0 0 0 0 0 0 false 0 0 0 0)))) else (none)) else (some (0, 0, 0, 0, 0, 0, 0, 0, 0, 0, 0, 0, false, 0, 0, 0, 0, ([] : List (S57)), 2)))
def headgateref18_DecodeAsk.T13 : Bool × List (List Nat × List Nat) := (true, [([], []), ([], []), ([], []), ([1, 2], [1, 2]), ([3], [3]), ([], []), ([], []), ([5, 6], [5, 6]), ([7], [7]), ([0, 4, 0, 1, 2, 3, 4, 5, 6, 7, 8], [0, 4]), ([9, 8, 0, 1, 2, 3, 4, 5, 6, 7, 8], [8, 9])])
def headgateref18_DecodeAsk.B13 : List Nat := [0, 0, 0, 6, 14, 0, 0, 96, 224, 511, 1023]
theorem headgateref18_DecodeAsk.tab13 : rtab .any (opsOf Try.f19 13) = headgateref18_DecodeAsk.T13 := by kernel_rfl
theorem headgateref18_DecodeAsk.bits13 : waitsOk headgateref18_DecodeAsk.T13.2 headgateref18_DecodeAsk.B13 = true := by kernel_rfl
def headgateref18_DecodeAsk.T14 : Bool × List (List Nat × List Nat) := (true, [([], []), ([0], [0]), ([1], [1]), ([], []), ([3], [3]), ([4], [4]), ([], []), ([2, 5, 6], [2, 5, 6]), ([], []), ([8, 7, 7, 0, 1, 2, 3, 4, 5, 6, 7, 8], [7, 8])])
def headgateref18_DecodeAsk.B14 : List Nat := [0, 1, 3, 0, 8, 24, 0, 127, 0, 511]
theorem headgateref18_DecodeAsk.tab14 : rtab .any (opsOf Try.f19 14) = headgateref18_DecodeAsk.T14 := by kernel_rfl
theorem headgateref18_DecodeAsk.bits14 : waitsOk headgateref18_DecodeAsk.T14.2 headgateref18_DecodeAsk.B14 = true := by kernel_rfl
set_option maxHeartbeats 8000000 in
set_option maxRecDepth 100000 in
theorem headgateref18_DecodeAsk.calls (k : Nat) (a0 : ByteArray) (r1 : Int) (r2 : Int) (r3 : Int) (r4 : Int) (r5 : Int) (r6 : Int) (r7 : Int) (r8 : Int) (r9 : Int) (r10 : Int) (r11 : Int) (r12 : Int) (r13 : Bool) (r14 : Int) (r15 : Int) (r16 : Int) (r17 : Int) (r18 : List (S57)) (r19 : Int) (w : World) (h : headgateref18_DecodeAsk.f k a0 = some (r1, r2, r3, r4, r5, r6, r7, r8, r9, r10, r11, r12, r13, r14, r15, r16, r17, r18, r19)) :
    Calls Try.prog 19 #[.string a0] w fun e w' => ∃ v17_ : Value, e = .returned (.tuple #[.agg #[.int .i64 r1, .int .i64 r2, .int .i64 r3, .int .i64 r4, .int .i64 r5, .int .i64 r6, .int .i64 r7, .int .i64 r8, .int .i64 r9, .int .i64 r10, .int .i64 r11, .int .i64 r12, .bool r13, .int .i64 r14, .int .i64 r15, .int .i64 r16, .int .i64 r17, v17_], .int .i64 r19]) ∧ Kd.R k57 57 w' w.heap.size (fun _ => True) v17_ r18 ∧ Below w.heap.size w w' := by
 have hu43 := Try.underlying43
 have hu41 := Try.underlying41
 have HB := Aside0.mk (Below.refl w.heap.size w)
 have H : ((headgateref01_TakeAll.f k a0 2).bind fun bt561 => (if bt561.2.2 = 0 then (if 0 < (bt561.1.length : Int) then ((headgateref18_which.f k (rd bt561.1 0)).bind fun t567 => ((headgateref01_TakeAll.f k bt561.2.1 (t567.length : Int)).bind fun bt570 => (if (t567.length : Int) = 0 then (headgateref18_DecodeAsk.j0 k bt561.1 t567 bt570.1 bt570.2.1 true 0 0 0 0 0 0 0 0 0 0 0 0 false 0 0 0 0) else (headgateref18_DecodeAsk.j0 k bt561.1 t567 bt570.1 bt570.2.1 (bt570.2.2 != 0) 0 0 0 0 0 0 0 0 0 0 0 0 false 0 0 0 0)))) else (none)) else (some (0, 0, 0, 0, 0, 0, 0, 0, 0, 0, 0, 0, false, 0, 0, 0, 0, ([] : List (S57)), 2)))) = some (r1, r2, r3, r4, r5, r6, r7, r8, r9, r10, r11, r12, r13, r14, r15, r16, r17, r18, r19) := h
 clear h
 replace H := Option.bind_eq_some_iff.mp H
 obtain ⟨⟨t561, t562, t563⟩, A20, H⟩ := H
 try dsimp only at H
 have A2 := Aside0.mk A20
 clear A20
 by_cases c3 : t563 = 0
 ·rw [if_pos c3] at H
  obtain ⟨c3b0, c3b1⟩ := Zr.y c3
  clear c3
  by_cases c4 : 0 < (t561.length : Int)
  ·rw [if_pos c4] at H
   have c4b0 : decide (0 < (t561.length : Int)) = true := decide_eq_true c4
   have c4b1 : decide (0 < t561.length) = true := decide_eq_true (by omega)
   clear c4
   replace H := Option.bind_eq_some_iff.mp H
   obtain ⟨t567, A50, H⟩ := H
   try dsimp only at H
   have A5 := Aside0.mk A50
   clear A50
   replace H := Option.bind_eq_some_iff.mp H
   obtain ⟨⟨t570, t571, t572⟩, A60, H⟩ := H
   try dsimp only at H
   have A6 := Aside0.mk A60
   clear A60
   have HC7 := Aside0.mk H
   clear H
   go_enter Try.func19, Try.ntmps19
   go_upto_region 7 with (first | ((with_reducible refine gate_dst (N := 2) rfl ?_); refine box_event ?hg (N := 2) ?hd (cs := #[.int .i64 0, .int .i64 0, .int .i64 0, .int .i64 0, .int .i64 0, .int .i64 0, .int .i64 0, .int .i64 0, .int .i64 0, .int .i64 0, .int .i64 0, .int .i64 0, .bool false, .int .i64 0, .int .i64 0, .int .i64 0, .int .i64 0, .slice none 0 0]) (t := 43) ?hr ?_; (case hd => rfl); (case hg => rfl); (case hr => first | (go_simp; done) | (go_simp; rfl)); intro gb559 hg w8 hbox hb; have BK559 := Aside0.mk (hbox); have GW559 := Aside0.mk (Zz.ge hg HB.out); have GE559 := Aside0.mk (Zz.ge hg HB.out); replace HB := Aside0.mk (below_step (Zz.i HB.out) hb); clear hb hbox hg) | ((with_reducible refine gate_dst (N := 4) rfl ?_); refine box_event ?hg (N := 4) ?hd (cs := #[.int .i64 0, .int .i64 0, .int .i64 0, .int .i64 0, .int .i64 0, .int .i64 0, .int .i64 0, .int .i64 0, .int .i64 0, .int .i64 0, .int .i64 0, .int .i64 0, .bool false, .int .i64 0, .int .i64 0, .int .i64 0, .int .i64 0, .slice none 0 0]) (t := 43) ?hr ?_; (case hd => rfl); (case hg => rfl); (case hr => first | (go_simp; done) | (go_simp; rfl)); intro gb560 hg w9 hbox hb; have BK560 := Aside0.mk (hbox); have GW560 := Aside0.mk (Zz.ge hg HB.out); have GE560 := Aside0.mk (Zz.ge hg HB.out); replace HB := Aside0.mk (below_step (Zz.i HB.out) hb); have NB559_560 := Aside0.mk (Zz.nl hg BK559.out); have NB560_559 := Aside0.mk (Zz.ng hg BK559.out); replace BK559 := Aside0.mk (Zz.bb BK559.out hb); clear hb hbox hg; have hnb10 := NB560_559.out; have hnc10 := NB559_560.out; have hcz11 := Zz.c18 BK560.out; have hfz11 := blk_frozen BK560.out) | ((with_reducible refine gate_callee (f := 34) rfl ?_); refine goesL_ (some 23) rfl rfl Try.func34 (by kernel_rfl) rfl #[.string a0, .int .i64 2] rfl Zz.g ?_; (with_reducible refine (headgateref01_TakeAll.calls k a0 2 t561 t562 t563 _ A2.out).mono ?_); rintro e w12 ⟨v564, rfl, ho0, hb⟩; refine ⟨_, rfl, ?_⟩; have n0_ := Aside0.mk (Kd.R_lower ho0 (below_size (Zz.i HB.out))); have n1_ := Aside0.mk (blk_below (g := gb559) (o := .cells #[.int .i64 0, .int .i64 0, .int .i64 0, .int .i64 0, .int .i64 0, .int .i64 0, .int .i64 0, .int .i64 0, .int .i64 0, .int .i64 0, .int .i64 0, .int .i64 0, .bool false, .int .i64 0, .int .i64 0, .int .i64 0, .int .i64 0, .slice none 0 0] 43 (0, 0)) (by exact Zz.q18 BK559.out NB559_560.out) hb); have n2_ := Aside0.mk (blk_below (g := gb560) (o := .cells #[.int .i64 0, .int .i64 0, .int .i64 0, .int .i64 0, .int .i64 0, .int .i64 0, .int .i64 0, .int .i64 0, .int .i64 0, .int .i64 0, .int .i64 0, .int .i64 0, .bool false, .int .i64 0, .int .i64 0, .int .i64 0, .int .i64 0, .slice none 0 0] 43 (0, 0)) (by (with_reducible repeat (first | refine blk_drewN ?_ _ | refine blk_drew ?_ | refine blk_alloc ?_ _)); exact Zz.u18_0_17 BK560.out) hb); have n3_ := Aside0.mk (below_step (Zz.i HB.out) hb); clear BK559; clear BK560; clear HB; have HO565 := n0_; have BK559 := n1_; have BK560 := n2_; have HB := n3_; clear n0_ n1_ n2_ n3_; (try clear hb); (try clear ho0); obtain ⟨Ao13, co13, eo13⟩ := Kd.R_slice HO565.out; subst eo13; have p566 : 0 ≤ (0 : Int) := (by omega); have q566 : 0 < (t561.length : Int) := of_decide_eq_true (by first | (with_reducible assumption) | assumption); obtain ⟨ad566, e566, hx566_0⟩ := Kd.at_int (Kd.R_reads' HO565.out).2.2 0 p566 q566; cases e566; have qi566 : (0 < t561.length) = True := eq_true (by omega); (try rw [show ((0 : Int)).toNat = 0 from rfl] at hx566_0); (try rw [Addr.add_zero'] at hx566_0); replace p566 := eq_true p566; replace q566 := eq_true q566) | ((with_reducible refine gate_callee (f := 44) rfl ?_); refine goesL_ (some 33) rfl rfl Try.func44 (by kernel_rfl) rfl #[.int .i64 (rd t561 0)] rfl Zz.g ?_; (with_reducible refine (headgateref18_which.calls k (rd t561 0) t567 _ A5.out).mono ?_); rintro e w14 ⟨v568, rfl, ho0, hb⟩; refine ⟨_, rfl, ?_⟩; have HO569 := Aside0.mk (Kd.R_lower (Kd.R_new' ho0 (Kd.R_lt (Zz.r HO565.out))) (below_size (Zz.i HB.out))); replace HO565 := Aside0.mk (Kd.R_elder' (Zz.r HO565.out) (Kd.R_base ho0) hb); replace BK559 := Aside0.mk (Zz.bb BK559.out hb); replace BK560 := Aside0.mk (Zz.bb BK560.out hb); replace HB := Aside0.mk (below_step (Zz.i HB.out) hb); (try clear hb); (try clear ho0); obtain ⟨Ao15, co15, eo15⟩ := Kd.R_slice HO569.out; subst eo15) | ((with_reducible refine gate_callee (f := 34) rfl ?_); refine goesL_ (some 38) rfl rfl Try.func34 (by kernel_rfl) rfl #[.string t562, .int .i64 (t567.length : Int)] rfl Zz.g ?_; (with_reducible refine (headgateref01_TakeAll.calls k t562 (t567.length : Int) t570 t571 t572 _ A6.out).mono ?_); rintro e w16 ⟨v573, rfl, ho0, hb⟩; refine ⟨_, rfl, ?_⟩; have HO574 := Aside0.mk (Kd.R_lower (Kd.R_new' (Kd.R_new' ho0 (Kd.R_lt (Zz.r HO565.out))) (Kd.R_lt (Zz.r HO569.out))) (below_size (Zz.i HB.out))); replace HO565 := Aside0.mk (Kd.R_elder' (Zz.r HO565.out) (Kd.R_base ho0) hb); replace HO569 := Aside0.mk (Kd.R_elder' (Zz.r HO569.out) (Kd.R_base ho0) hb); replace BK559 := Aside0.mk (Zz.bb BK559.out hb); replace BK560 := Aside0.mk (Zz.bb BK560.out hb); replace HB := Aside0.mk (below_step (Zz.i HB.out) hb); (try clear hb); (try clear ho0)))
   (try simp only [Act.put, List.setIfInBounds_toArray, List.set_cons_zero, List.set_cons_succ])
   go_cut [48] (fun v48 wc => ∃ (kq : Nat) (x48_6 : Bool), v48 = .bool x48_6 ∧ Aside0 (headgateref18_DecodeAsk.j0 kq t561 t567 t570 t571 x48_6 0 0 0 0 0 0 0 0 0 0 0 0 false 0 0 0 0 = some (r1, r2, r3, r4, r5, r6, r7, r8, r9, r10, r11, r12, r13, r14, r15, r16, r17, r18, r19)) ∧ Aside0 (kq ≤ k) ∧ Aside0 (Kd.R (Kd.int .i64) 3 wc w.heap.size (fun k_ => some k_ ≠ ((.slice Ao15 t567.length co15) : Value).ownBlock ∧ some k_ ≠ (v573 : Value).ownBlock) (.slice (some ad566) t561.length co13) t561) ∧ Aside0 (Kd.R (Kd.int .i64) 3 wc w.heap.size (fun k_ => some k_ ≠ ((.slice (some ad566) t561.length co13) : Value).ownBlock ∧ some k_ ≠ (v573 : Value).ownBlock) (.slice Ao15 t567.length co15) t567) ∧ Aside0 (Kd.R (Kd.int .i64) 3 wc w.heap.size (fun k_ => some k_ ≠ ((.slice (some ad566) t561.length co13) : Value).ownBlock ∧ some k_ ≠ ((.slice Ao15 t567.length co15) : Value).ownBlock) v573 t570) ∧ Aside0 (wc.heap[gb559]? = some (.cells #[.int .i64 0, .int .i64 0, .int .i64 0, .int .i64 0, .int .i64 0, .int .i64 0, .int .i64 0, .int .i64 0, .int .i64 0, .int .i64 0, .int .i64 0, .int .i64 0, .bool false, .int .i64 0, .int .i64 0, .int .i64 0, .int .i64 0, (.slice none 0 0)] 43 (0, 0))) ∧ Aside0 (wc.heap[gb560]? = some (.cells #[.int .i64 0, .int .i64 0, .int .i64 0, .int .i64 0, .int .i64 0, .int .i64 0, .int .i64 0, .int .i64 0, .int .i64 0, .int .i64 0, .int .i64 0, .int .i64 0, .bool false, .int .i64 0, .int .i64 0, .int .i64 0, .int .i64 0, (.slice none 0 0)] 43 (0, 0))) ∧ Aside0 (Below w.heap.size w wc))
   case first =>
    have H := HC7.out
    clear HC7
    by_cases c17 : (t567.length : Int) = 0
    ·rw [if_pos c17] at H
     obtain ⟨c17b0, c17b1⟩ := Zr.y c17
     clear c17
     (first | rw [c17b0] | rw [c17b9] | (simp only [i64_w, i32_w]; rw [c17b0]) | skip)
     have H' := Aside0.mk H
     clear H
     go_wp2
     go_meet
     case rel => exact ⟨_, (true), Zz.q, H', ⟨by first | omega | exact Nat.le_refl _⟩, ⟨by (with_reducible repeat (first | apply Kd.R_alloc | apply Kd.R_drewN | apply Kd.R_drew)); exact Kd.R_mono HO565.out (fun _ hk => ⟨hk.1.2, hk.2⟩)⟩, ⟨by (with_reducible repeat (first | apply Kd.R_alloc | apply Kd.R_drewN | apply Kd.R_drew)); exact Kd.R_mono HO569.out (fun _ hk => ⟨hk.1.2, hk.2⟩)⟩, ⟨by (with_reducible repeat (first | apply Kd.R_alloc | apply Kd.R_drewN | apply Kd.R_drew)); exact Kd.R_mono HO574.out (fun _ hk => ⟨hk.1.2, hk.2⟩)⟩, ⟨Zz.p BK559.out⟩, ⟨Zz.p BK560.out⟩, ⟨Zz.i HB.out⟩⟩
    rw [if_neg c17] at H
    obtain ⟨c17b0, c17b1⟩ := Zr.n c17
    have c17b2 : ¬ (t567 = []) := fun h_ => c17 (by rw [h_]; rfl)
    (first | rw [c17b0] | rw [c17b9] | (simp only [i64_w, i32_w]; rw [c17b0]) | skip)
    have H' := Aside0.mk H
    clear H
    go_wp2
    go_meet
    case rel => exact ⟨_, ((t572 != 0)), Zz.q, H', ⟨by first | omega | exact Nat.le_refl _⟩, ⟨by (with_reducible repeat (first | apply Kd.R_alloc | apply Kd.R_drewN | apply Kd.R_drew)); exact Kd.R_mono HO565.out (fun _ hk => ⟨hk.1.2, hk.2⟩)⟩, ⟨by (with_reducible repeat (first | apply Kd.R_alloc | apply Kd.R_drewN | apply Kd.R_drew)); exact Kd.R_mono HO569.out (fun _ hk => ⟨hk.1.2, hk.2⟩)⟩, ⟨by (with_reducible repeat (first | apply Kd.R_alloc | apply Kd.R_drewN | apply Kd.R_drew)); exact Kd.R_mono HO574.out (fun _ hk => ⟨hk.1.2, hk.2⟩)⟩, ⟨Zz.p BK559.out⟩, ⟨Zz.p BK560.out⟩, ⟨Zz.i HB.out⟩⟩
   clear HC7
   (try clear c1);(try clear p2);(try clear c3);(try clear c3b0);(try clear c3b1);(try clear c4);(try clear c4b0);(try clear c4b1);(try clear p5);(try clear q5);(try clear hx5);(try clear qi5);(try clear c10);(try clear c17);(try clear c17b0);(try clear c17b1);(try clear c17b2);(try clear hcz11);(try clear hfz11);(try clear hx566_0);(try clear p566);(try clear q566)
   obtain ⟨kq, x48_6, rfl, HA, HJ6, HO_5, HO_8, HO_9, BK559, BK560, HB⟩ := hcut
   cases kq with
   | zero => exact absurd HA.out (by simp [headgateref18_DecodeAsk.j0])
   | succ kj6 =>
    have H := HA.out
    clear HA
    simp only [headgateref18_DecodeAsk.j0] at H
    by_cases c18 : x48_6 = true
    ·subst c18
     rw [if_pos rfl] at H
     simp only [Option.some.injEq, Prod.mk.injEq] at H
     obtain ⟨rfl, rfl, rfl, rfl, rfl, rfl, rfl, rfl, rfl, rfl, rfl, rfl, rfl, rfl, rfl, rfl, rfl, rfl, rfl⟩ := H
     have hnb19 := NB560_559.out
     have hnc19 := NB559_560.out
     have hcz20 := Zz.c18 BK560.out
     have hfz20 := blk_frozen BK560.out
     have hcz21 := Zz.c18 BK559.out
     have hfz21 := blk_frozen BK559.out
     go_wp2
     refine bodyPost_ret (results_ct rfl _ _ gb559 43 #[.int .i64 0, .int .i64 0, .int .i64 0, .int .i64 0, .int .i64 0, .int .i64 0, .int .i64 0, .int .i64 0, .int .i64 0, .int .i64 0, .int .i64 0, .int .i64 0, .bool false, .int .i64 0, .int .i64 0, .int .i64 0, .int .i64 0, .slice none 0 0] (0, 0) _ rfl (by (with_reducible repeat (first | refine blk_drewN ?_ _ | refine blk_drew ?_ | refine blk_alloc ?_ _)); exact Zz.u18_0_17 BK559.out) Try.underlying43 rfl (by kernel_rfl)) rfl ?_
     exact ⟨_, Zr.e, by first | exact Kd.R_nil _ _ _ _ _ | exact Kd.N_nil _ _ _ _ _ | exact Kd.V_nil _ _ _ _ _ | exact Kd.Q_nil _ _ _ _ _ | exact Kd.S_nil _ _ _ _ _, Zz.i HB.out⟩
    replace c18 := Bool.eq_false_iff.mpr c18
    subst c18
    rw [if_neg Bool.false_ne_true] at H
    obtain ⟨y575, hy575⟩ : ∃ y_ : List Int, y_ = (([0, 0, 0, 0, 0, 0, 0, 0, 0, 0, 0] : List Int)) := ⟨_, rfl⟩
    replace H : (headgateref18_DecodeAsk.l0 kj6 t561 t567 t570 t571 y575 0 0 0 0 0 0 0 0 0 0 0 0 0 false 0 0 0 0) = some (r1, r2, r3, r4, r5, r6, r7, r8, r9, r10, r11, r12, r13, r14, r15, r16, r17, r18, r19) := by first | (rw [hy575]; with_reducible exact H) | (have H2_ := (Option.bind_some _ _).symm.trans H; rw [hy575]; with_reducible exact H2_) | (have H2_ := (Option.bind_some _ _).symm.trans H; with_reducible exact H2_) | with_reducible exact H | (rw [hy575]; exact H) | exact H
    have Ny575 := Aside0.mk hy575
    clear hy575
    have H' := Aside0.mk H
    clear H
    go_wp2_with (first | ((with_reducible refine gate_dst (N := 50) rfl ?_); refine Kd.R_lit (Kd.int .i64) _ 3 ?hg (N := 50) ?hd (xs := ([0, 0, 0, 0, 0, 0, 0, 0, 0, 0, 0] : List Int)) (inner := [.int .i64 0, .int .i64 0, .int .i64 0, .int .i64 0, .int .i64 0, .int .i64 0, .int .i64 0, .int .i64 0, .int .i64 0, .int .i64 0, .int .i64 0]) (ok := fun _ => True) (okp := fun _ => True) ?hr ?hp (fun _ hk => hk) trivial (Below.refl _ _) (Nat.le_refl _) (by simp) ?_; (case hd => rfl); (case hg => rfl); (case hr => first | (go_simp; done) | (go_simp; rfl)); (case hp => exact (Reps.one (show Kd.M (Kd.int .i64) _ _ _ 0 [.int .i64 0] from rfl) (Reps.one (show Kd.M (Kd.int .i64) _ _ _ 0 [.int .i64 0] from rfl) (Reps.one (show Kd.M (Kd.int .i64) _ _ _ 0 [.int .i64 0] from rfl) (Reps.one (show Kd.M (Kd.int .i64) _ _ _ 0 [.int .i64 0] from rfl) (Reps.one (show Kd.M (Kd.int .i64) _ _ _ 0 [.int .i64 0] from rfl) (Reps.one (show Kd.M (Kd.int .i64) _ _ _ 0 [.int .i64 0] from rfl) (Reps.one (show Kd.M (Kd.int .i64) _ _ _ 0 [.int .i64 0] from rfl) (Reps.one (show Kd.M (Kd.int .i64) _ _ _ 0 [.int .i64 0] from rfl) (Reps.one (show Kd.M (Kd.int .i64) _ _ _ 0 [.int .i64 0] from rfl) (Reps.one (show Kd.M (Kd.int .i64) _ _ _ 0 [.int .i64 0] from rfl) (Reps.one (show Kd.M (Kd.int .i64) _ _ _ 0 [.int .i64 0] from rfl) (Reps.none _ _))))))))))))); intro v576 w22 ho23 hb hg_ hnew_; clear hg_ hnew_; (first | rw [← Ny575.out] at ho23 | (simp only [Int.reduceToNat] at ho23; rw [← Ny575.out] at ho23)); have HO577 := Aside0.mk (Kd.R_lower (Kd.R_new' (Kd.R_new' (Kd.R_new' ho23 (Kd.R_lt (Zz.r HO_5.out))) (Kd.R_lt (Zz.r HO_8.out))) (Kd.R_lt (Zz.r HO_9.out))) (below_size (Zz.i HB.out))); replace HO_5 := Aside0.mk (Kd.R_elder' (Zz.r HO_5.out) (Kd.R_base ho23) hb); replace HO_8 := Aside0.mk (Kd.R_elder' (Zz.r HO_8.out) (Kd.R_base ho23) hb); replace HO_9 := Aside0.mk (Kd.R_elder' (Zz.r HO_9.out) (Kd.R_base ho23) hb); replace BK559 := Aside0.mk (Zz.bb BK559.out hb); replace BK560 := Aside0.mk (Zz.bb BK560.out hb); replace HB := Aside0.mk (below_step (Zz.i HB.out) hb); clear hb ho23))
    go_loopg [13] kj6 (fun kq v13 w' => ∃ (x12_2 : List Int) (x13_2 : Int), v13 = .int .i64 x13_2 ∧ Aside0 (headgateref18_DecodeAsk.l0 kq t561 t567 t570 t571 x12_2 x13_2 0 0 0 0 0 0 0 0 0 0 0 0 false 0 0 0 0 = some (r1, r2, r3, r4, r5, r6, r7, r8, r9, r10, r11, r12, r13, r14, r15, r16, r17, r18, r19)) ∧ Aside0 (kq ≤ kj6) ∧ Aside0 (Kd.R (Kd.int .i64) 3 w' w.heap.size (fun k_ => some k_ ≠ ((.slice Ao15 t567.length co15) : Value).ownBlock ∧ some k_ ≠ (v573 : Value).ownBlock ∧ some k_ ≠ (v576 : Value).ownBlock) (.slice (some ad566) t561.length co13) t561) ∧ Aside0 (Kd.R (Kd.int .i64) 3 w' w.heap.size (fun k_ => some k_ ≠ ((.slice (some ad566) t561.length co13) : Value).ownBlock ∧ some k_ ≠ (v573 : Value).ownBlock ∧ some k_ ≠ (v576 : Value).ownBlock) (.slice Ao15 t567.length co15) t567) ∧ Aside0 (Kd.R (Kd.int .i64) 3 w' w.heap.size (fun k_ => some k_ ≠ ((.slice (some ad566) t561.length co13) : Value).ownBlock ∧ some k_ ≠ ((.slice Ao15 t567.length co15) : Value).ownBlock ∧ some k_ ≠ (v576 : Value).ownBlock) v573 t570) ∧ Aside0 (Kd.R (Kd.int .i64) 3 w' w.heap.size (fun k_ => some k_ ≠ ((.slice (some ad566) t561.length co13) : Value).ownBlock ∧ some k_ ≠ ((.slice Ao15 t567.length co15) : Value).ownBlock ∧ some k_ ≠ (v573 : Value).ownBlock) v576 x12_2) ∧ Aside0 (w'.heap[gb559]? = some (.cells #[.int .i64 0, .int .i64 0, .int .i64 0, .int .i64 0, .int .i64 0, .int .i64 0, .int .i64 0, .int .i64 0, .int .i64 0, .int .i64 0, .int .i64 0, .int .i64 0, .bool false, .int .i64 0, .int .i64 0, .int .i64 0, .int .i64 0, (.slice none 0 0)] 43 (0, 0))) ∧ Aside0 (w'.heap[gb560]? = some (.cells #[.int .i64 0, .int .i64 0, .int .i64 0, .int .i64 0, .int .i64 0, .int .i64 0, .int .i64 0, .int .i64 0, .int .i64 0, .int .i64 0, .int .i64 0, .int .i64 0, .bool false, .int .i64 0, .int .i64 0, .int .i64 0, .int .i64 0, (.slice none 0 0)] 43 (0, 0))) ∧ Aside0 (Below w.heap.size w w'))
    case atStart => exact ⟨(y575), (0), Zz.q, H', ⟨Nat.le_refl _⟩, ⟨by (with_reducible repeat (first | apply Kd.R_alloc | apply Kd.R_drewN | apply Kd.R_drew)); exact Kd.R_mono HO_5.out (fun _ hk => ⟨hk.1.1, ⟨hk.1.2, hk.2⟩⟩)⟩, ⟨by (with_reducible repeat (first | apply Kd.R_alloc | apply Kd.R_drewN | apply Kd.R_drew)); exact Kd.R_mono HO_8.out (fun _ hk => ⟨hk.1.1, ⟨hk.1.2, hk.2⟩⟩)⟩, ⟨by (with_reducible repeat (first | apply Kd.R_alloc | apply Kd.R_drewN | apply Kd.R_drew)); exact Kd.R_mono HO_9.out (fun _ hk => ⟨hk.1.1, ⟨hk.1.2, hk.2⟩⟩)⟩, ⟨by (with_reducible repeat (first | apply Kd.R_alloc | apply Kd.R_drewN | apply Kd.R_drew)); exact Kd.R_mono HO577.out (fun _ hk => ⟨hk.1.1.2, ⟨hk.1.2, hk.2⟩⟩)⟩, ⟨Zz.p BK559.out⟩, ⟨Zz.p BK560.out⟩, ⟨Zz.i HB.out⟩⟩
    case round =>
     clear H'
     (try clear c1);(try clear p2);(try clear c3);(try clear c3b0);(try clear c3b1);(try clear c4);(try clear c4b0);(try clear c4b1);(try clear p5);(try clear q5);(try clear hx5);(try clear qi5);(try clear c10);(try clear c17);(try clear c17b0);(try clear c17b1);(try clear c17b2);(try clear c18);(try clear c19);(try clear hcz11);(try clear hcz20);(try clear hcz21);(try clear hfz11);(try clear hfz20);(try clear hfz21);(try clear hx566_0);(try clear p566);(try clear q566)
     obtain ⟨x12_2, x13_2, rfl, HA, HK2, HO_5, HO_8, HO_9, HO_12, BK559, BK560, HB⟩ := hrel
     cases gk with
     | zero => exact absurd HA.out (by simp [headgateref18_DecodeAsk.l0])
     | succ k2 =>
      have H := HA.out
      clear HA
      simp only [headgateref18_DecodeAsk.l0] at H
      by_cases c24 : x13_2 < (t567.length : Int)
      ·rw [if_pos c24] at H
       have c24b0 : decide (x13_2 < (t567.length : Int)) = true := decide_eq_true c24
       clear c24
       by_cases c25 : 0 ≤ x13_2
       ·rw [if_pos c25] at H
        have c25b0 : decide (0 ≤ x13_2) = true := decide_eq_true c25
        clear c25
        by_cases c26 : x13_2 < (t570.length : Int)
        ·rw [if_pos c26] at H
         have c26b0 : decide (x13_2 < (t570.length : Int)) = true := decide_eq_true c26
         clear c26
         by_cases c27 : 0 ≤ (rd t567 x13_2)
         ·rw [if_pos c27] at H
          have c27b0 : decide (0 ≤ (rd t567 x13_2)) = true := decide_eq_true c27
          clear c27
          by_cases c28 : (rd t567 x13_2) < (x12_2.length : Int)
          ·rw [if_pos c28] at H
           have c28b0 : decide ((rd t567 x13_2) < (x12_2.length : Int)) = true := decide_eq_true c28
           clear c28
           obtain ⟨y580, hy580⟩ : ∃ y_ : List Int, y_ = (x12_2.set ((rd t567 x13_2) : Int).toNat (rd t570 x13_2)) := ⟨_, rfl⟩
           replace H : (headgateref18_DecodeAsk.l0 k2 t561 t567 t570 t571 y580 (wrap64 (x13_2 + 1)) 0 0 0 0 0 0 0 0 0 0 0 0 false 0 0 0 0) = some (r1, r2, r3, r4, r5, r6, r7, r8, r9, r10, r11, r12, r13, r14, r15, r16, r17, r18, r19) := by first | (rw [hy580]; with_reducible exact H) | (have H2_ := (Option.bind_some _ _).symm.trans H; rw [hy580]; with_reducible exact H2_) | (have H2_ := (Option.bind_some _ _).symm.trans H; with_reducible exact H2_) | with_reducible exact H | (rw [hy580]; exact H) | exact H
           have Ny580 := Aside0.mk hy580
           clear hy580
           have H' := Aside0.mk H
           clear H
           try go_wp2
           have n0_ := Aside0.mk (Kd.R_drew HO_5.out)
           have n1_ := Aside0.mk (Kd.R_drew HO_8.out)
           have n2_ := Aside0.mk (Kd.R_drew HO_9.out)
           have n3_ := Aside0.mk (Kd.R_drew HO_12.out)
           have n4_ := Aside0.mk (blk_drew BK559.out)
           have n5_ := Aside0.mk (blk_drew BK560.out)
           have n6_ := Aside0.mk (below_drew1 HB.out)
           clear HO_5
           clear HO_8
           clear HO_9
           clear HO_12
           clear BK559
           clear BK560
           clear HB
           have HO_5 := n0_
           have HO_8 := n1_
           have HO_9 := n2_
           have HO_12 := n3_
           have BK559 := n4_
           have BK560 := n5_
           have HB := n6_
           clear n0_ n1_ n2_ n3_ n4_ n5_ n6_
           have p578 : 0 ≤ (x13_2 : Int) := of_decide_eq_true (by first | (with_reducible assumption) | assumption)
           have q578 : x13_2 < (t567.length : Int) := of_decide_eq_true (by first | (with_reducible assumption) | assumption)
           obtain ⟨ad578, e578, hx578_0⟩ := Kd.at_int (Kd.R_reads' HO_8.out).2.2 x13_2 p578 q578
           cases e578
           replace p578 := eq_true p578
           replace q578 := eq_true q578
           obtain ⟨Ao31, co31, eo31⟩ := Kd.R_slice HO_9.out
           (first | subst eo31 | (injection eo31 with f1_ f2_ f3_; have f4_ := f1_.symm; have f5_ := f3_.symm; clear f1_ f2_ f3_; subst f4_; subst f5_))
           have p579 : 0 ≤ (x13_2 : Int) := of_decide_eq_true (by first | (with_reducible assumption) | assumption)
           have q579 : x13_2 < (t570.length : Int) := of_decide_eq_true (by first | (with_reducible assumption) | assumption)
           obtain ⟨ad579, e579, hx579_0⟩ := Kd.at_int (Kd.R_reads' HO_9.out).2.2 x13_2 p579 q579
           cases e579
           replace p579 := eq_true p579
           replace q579 := eq_true q579
           have p29 : 0 ≤ ((rd t567 x13_2) : Int) := of_decide_eq_true (by first | (with_reducible assumption) | assumption)
           have q29 : ((rd t567 x13_2) : Int) < ((x12_2.length : Int) : Int) := of_decide_eq_true (by first | (with_reducible assumption) | assumption)
           obtain ⟨go29, co29, eo29, gb29, gl29, cl29, HG29⟩ := Kd.R_form HO_12.out (by omega)
           (first | cases eo29 | (injection eo29 with ea_ en_ ec_; (first | subst ea_ | (injection ea_ with ea_; subst ea_)); subst ec_; clear en_))
           have GB29 := Aside0.mk gb29
           have GG29 := Aside0.mk HG29
           clear gb29 gl29 HG29
           obtain ⟨hx29_0, hf29_0⟩ := Kd.R_celln 0 HO_12.out ((rd t567 x13_2) : Int) p29 q29
           replace p29 := eq_true p29
           replace q29 := eq_true q29
           have HP32 := Kd.R_putn HO_12.out ((rd t567 x13_2) : Int) (rd t570 x13_2)
           rw [← Ny580.out] at HP32
           have HQ32 := Aside0.mk HP32
           clear HP32
           refine start_ (n := 11) (S := fun w' => w'.cell? (ad578.add (x13_2).toNat) = some (.int .i64 (rd t567 x13_2)) ∧ w'.cell? (ad579.add (x13_2).toNat) = some (.int .i64 (rd t570 x13_2))) (ds := [10]) #[false, false, false, false, false, false, false, false, false, false, false] (by kernel_rfl) rfl rfl ⟨hx578_0, hx579_0⟩ (fun hHeld => ?_); refine with_tabW headgateref18_DecodeAsk.tab13 headgateref18_DecodeAsk.bits13 (fun HT_ HW_ => ?_)
           generalize wr.drew = w30 at HO_5 HO_8 HO_9 HO_12 BK559 BK560 HB GG29 HQ32 hf29_0 hx29_0 hx578_0 hx579_0 hHeld ⊢
           refine Zr.pu 0 57 HT_.out ?_
           refine Zr.pu 1 58 HT_.out ?_
           refine Zr.pu 2 59 HT_.out ?_
           refine Zr.pu 3 60 HT_.out ?_
           refine Zr.pu 5 62 HT_.out ?_
           refine Zr.pu 6 63 HT_.out ?_
           refine Zr.pu 7 64 HT_.out ?_
           refine Zr.ta 4 61 HT_.out HW_.out hHeld ?_
           refine Zr.ta 8 65 HT_.out HW_.out hHeld ?_
           refine Zr.pu 9 66 HT_.out ?_
           refine last_ (i := 10) (N := none) #[true, true, true, true, true, true, true, true, true, true, true] rfl rfl (one_of HT_.out (by kernel_rfl)) (by decide) (fun K hK => ?_)
           refine skip_ (w1 := ?_) (by rfl) rfl ?_ ?_
           rotate_left
           ·go_simp
            rfl
           refine hK.out _ _ ?_
           clear hK K
           refine done_ (done_of HT_.out (by kernel_rfl)) ?_
           try go_wp2
           go_roundg k2
           case measure => have := HJ6.out; have := HK2.out; omega
           case rel => exact ⟨(y580), (wrap64 (x13_2 + 1)), Zz.q, H', ⟨by have := HJ6.out; have := HK2.out; omega⟩, ⟨by (with_reducible repeat (first | apply Kd.R_alloc | apply Kd.R_drewN | apply Kd.R_drew)); exact Kd.R_mono (Kd.R_far (p := ⟨go29, ((rd t567 x13_2) : Int).toNat, none⟩) (Kd.R_mono HO_5.out (fun k_ hk => (⟨hk, fun e_ => hk.2.2 (by rw [e_]; rfl)⟩ : _ ∧ k_ ≠ go29))) (fun _ hk => hk.2) (.int .i64 (rd t570 x13_2))) (fun _ hk => ⟨hk.1.1, ⟨hk.1.2.1, hk.1.2.2⟩⟩)⟩, ⟨by (with_reducible repeat (first | apply Kd.R_alloc | apply Kd.R_drewN | apply Kd.R_drew)); exact Kd.R_mono (Kd.R_far (p := ⟨go29, ((rd t567 x13_2) : Int).toNat, none⟩) (Kd.R_mono HO_8.out (fun k_ hk => (⟨hk, fun e_ => hk.2.2 (by rw [e_]; rfl)⟩ : _ ∧ k_ ≠ go29))) (fun _ hk => hk.2) (.int .i64 (rd t570 x13_2))) (fun _ hk => ⟨hk.1.1, ⟨hk.1.2.1, hk.1.2.2⟩⟩)⟩, ⟨by (with_reducible repeat (first | apply Kd.R_alloc | apply Kd.R_drewN | apply Kd.R_drew)); exact Kd.R_mono (Kd.R_far (p := ⟨go29, ((rd t567 x13_2) : Int).toNat, none⟩) (Kd.R_mono HO_9.out (fun k_ hk => (⟨hk, fun e_ => hk.2.2 (by rw [e_]; rfl)⟩ : _ ∧ k_ ≠ go29))) (fun _ hk => hk.2) (.int .i64 (rd t570 x13_2))) (fun _ hk => ⟨hk.1.1, ⟨hk.1.2.1, hk.1.2.2⟩⟩)⟩, ⟨by (with_reducible repeat (first | apply Kd.R_alloc | apply Kd.R_drewN | apply Kd.R_drew)); exact HQ32.out⟩, ⟨by (with_reducible repeat (first | refine blk_drewN ?_ _ | refine blk_drew ?_ | refine blk_alloc ?_ _)); refine blk_far ?_ (by have h_ := Kd.R_ne HO_12.out BK559.out (by decide); intro e_; exact h_ (by rw [e_]; rfl)) _; (with_reducible repeat (first | refine blk_drewN ?_ _ | refine blk_drew ?_ | refine blk_alloc ?_ _)); exact BK559.out⟩, ⟨by (with_reducible repeat (first | refine blk_drewN ?_ _ | refine blk_drew ?_ | refine blk_alloc ?_ _)); refine blk_far ?_ (by have h_ := Kd.R_ne HO_12.out BK560.out (by decide); intro e_; exact h_ (by rw [e_]; rfl)) _; (with_reducible repeat (first | refine blk_drewN ?_ _ | refine blk_drew ?_ | refine blk_alloc ?_ _)); exact BK560.out⟩, ⟨by repeat (first | (with_reducible first | exact HB.out | apply below_alloc | apply pw_below_drewN | apply below_drew1 | refine below_set ?_ GB29.out | refine below_set ?_ GE559.out | refine below_set ?_ GE560.out) | exact HB.out)⟩⟩
          rw [if_neg c28] at H
          exact absurd H (by simp)
         rw [if_neg c27] at H
         exact absurd H (by simp)
        rw [if_neg c26] at H
        exact absurd H (by simp)
       rw [if_neg c25] at H
       exact absurd H (by simp)
      rw [if_neg c24] at H
      have c24b0 : decide (x13_2 < (t567.length : Int)) = false := decide_eq_false c24
      clear c24
      by_cases c33 : 0 < (t561.length : Int)
      ·rw [if_pos c33] at H
       have c33b0 : decide (0 < (t561.length : Int)) = true := decide_eq_true c33
       have c33b1 : decide (0 < t561.length) = true := decide_eq_true (by omega)
       clear c33
       by_cases c34 : 1 < (t561.length : Int)
       ·rw [if_pos c34] at H
        have c34b0 : decide (1 < (t561.length : Int)) = true := decide_eq_true c34
        have c34b1 : decide (1 < t561.length) = true := decide_eq_true (by omega)
        clear c34
        replace H := Option.bind_eq_some_iff.mp H
        obtain ⟨⟨t583, t584, t585, t586, t587, t588, t589, t590, t591, t592, t593, t594, t595, t596, t597, t598, t599, t600⟩, A350, H⟩ := H
        try dsimp only at H
        have A35 := Aside0.mk A350
        clear A350
        have HC36 := Aside0.mk H
        clear H
        obtain ⟨Ao37, co37, eo37⟩ := Kd.R_slice HO_12.out
        subst eo37
        try go_wp2
        have n0_ := Aside0.mk (Kd.R_drew HO_5.out)
        have n1_ := Aside0.mk (Kd.R_drew HO_8.out)
        have n2_ := Aside0.mk (Kd.R_drew HO_9.out)
        have n3_ := Aside0.mk (Kd.R_drew HO_12.out)
        have n4_ := Aside0.mk (blk_drew BK559.out)
        have n5_ := Aside0.mk (blk_drew BK560.out)
        have n6_ := Aside0.mk (below_drew1 HB.out)
        clear HO_5
        clear HO_8
        clear HO_9
        clear HO_12
        clear BK559
        clear BK560
        clear HB
        have HO_5 := n0_
        have HO_8 := n1_
        have HO_9 := n2_
        have HO_12 := n3_
        have BK559 := n4_
        have BK560 := n5_
        have HB := n6_
        clear n0_ n1_ n2_ n3_ n4_ n5_ n6_
        have p581 : 0 ≤ (0 : Int) := (by omega)
        have q581 : 0 < (t561.length : Int) := of_decide_eq_true (by first | (with_reducible assumption) | assumption)
        obtain ⟨ad581, e581, hx581_0⟩ := Kd.at_int (Kd.R_reads' HO_5.out).2.2 0 p581 q581
        obtain rfl : ad566 = ad581 := (by injection e581)
        have qi581 : (0 < t561.length) = True := eq_true (by omega)
        (try rw [show ((0 : Int)).toNat = 0 from rfl] at hx581_0)
        (try rw [Addr.add_zero'] at hx581_0)
        replace p581 := eq_true p581
        replace q581 := eq_true q581
        have p582 : 0 ≤ (1 : Int) := (by omega)
        have q582 : 1 < (t561.length : Int) := of_decide_eq_true (by first | (with_reducible assumption) | assumption)
        obtain ⟨ad582, e582, hx582_0⟩ := Kd.at_int (Kd.R_reads' HO_5.out).2.2 1 p582 q582
        obtain rfl : ad566 = ad582 := (by injection e582)
        (try simp only [show (1 : Int).toNat = 1 from rfl, Nat.reduceMul, Nat.reduceEqDiff, Go.Addr.add, ↓reduceIte] at hx582_0)
        have qi582 : (1 < t561.length) = True := eq_true (by omega)
        (try rw [show ((1 : Int)).toNat = 1 from rfl] at hx582_0)
        replace p582 := eq_true p582
        replace q582 := eq_true q582
        refine start_ (n := 10) (S := fun w' => w'.cell? ad566 = some (.int .i64 (rd t561 0)) ∧ w'.cell? ⟨ad566.block, ad566.off + 1, none⟩ = some (.int .i64 (rd t561 1))) (ds := []) #[false, false, false, false, false, false, false, false, false, false] (by kernel_rfl) rfl rfl ⟨hx581_0, hx582_0⟩ (fun hHeld => ?_); refine with_tabW headgateref18_DecodeAsk.tab14 headgateref18_DecodeAsk.bits14 (fun HT_ HW_ => ?_)
        generalize wr.drew = w38 at HO_5 HO_8 HO_9 HO_12 BK559 BK560 HB hx581_0 hx582_0 hHeld ⊢
        refine Zr.pu 0 67 HT_.out ?_
        refine Zr.pu 1 68 HT_.out ?_
        refine Zr.pu 3 70 HT_.out ?_
        refine Zr.pu 4 71 HT_.out ?_
        refine Zr.pu 6 73 HT_.out ?_
        refine Zr.ta 2 69 HT_.out HW_.out hHeld ?_
        refine Zr.ta 5 72 HT_.out HW_.out hHeld ?_
        refine join_ (σ := Value × Nat) 1 #[true, true, true, true, true, true, true, true, true, false] (fun s_ => [(74, .agg #[.int .i64 t583, .int .i64 t584, .int .i64 t585, .int .i64 t586, .int .i64 t587, .int .i64 t588, .int .i64 t589, .int .i64 t590, .int .i64 t591, .int .i64 t592, .int .i64 t593, .int .i64 t594, .bool t595, .int .i64 t596, .int .i64 t597, .int .i64 t598, .int .i64 t599, s_.1]), (14, .pointer (some ⟨s_.2, 0, none⟩))]) (fun s_ w' => (w'.cell? ad566 = some (.int .i64 (rd t561 0)) ∧ w'.cell? ⟨ad566.block, ad566.off + 1, none⟩ = some (.int .i64 (rd t561 1))) ∧ (Kd.R k57 57 w' w.heap.size (fun _ => True) s_.1 t600) ∧ (Kd.R (Kd.int .i64) 3 w' w.heap.size (fun k_ => some k_ ≠ (.slice (some ad566) t561.length co13 : Value).ownBlock ∧ some k_ ≠ (.slice Ao15 t567.length co15 : Value).ownBlock ∧ some k_ ≠ (v573 : Value).ownBlock) (.slice Ao37 x12_2.length co37) x12_2) ∧ (Kd.R (Kd.int .i64) 3 w' w.heap.size (fun k_ => some k_ ≠ (.slice Ao37 x12_2.length co37 : Value).ownBlock ∧ some k_ ≠ (.slice Ao15 t567.length co15 : Value).ownBlock ∧ some k_ ≠ (v573 : Value).ownBlock) (.slice (some ad566) t561.length co13) t561) ∧ (Kd.R (Kd.int .i64) 3 w' w.heap.size (fun k_ => some k_ ≠ (.slice Ao37 x12_2.length co37 : Value).ownBlock ∧ some k_ ≠ (.slice (some ad566) t561.length co13 : Value).ownBlock ∧ some k_ ≠ (v573 : Value).ownBlock) (.slice Ao15 t567.length co15) t567) ∧ (Kd.R (Kd.int .i64) 3 w' w.heap.size (fun k_ => some k_ ≠ (.slice Ao37 x12_2.length co37 : Value).ownBlock ∧ some k_ ≠ (.slice (some ad566) t561.length co13 : Value).ownBlock ∧ some k_ ≠ (.slice Ao15 t567.length co15 : Value).ownBlock) v573 t570) ∧ (w'.heap[gb559]? = some (.cells #[.int .i64 0, .int .i64 0, .int .i64 0, .int .i64 0, .int .i64 0, .int .i64 0, .int .i64 0, .int .i64 0, .int .i64 0, .int .i64 0, .int .i64 0, .int .i64 0, .bool false, .int .i64 0, .int .i64 0, .int .i64 0, .int .i64 0, .slice none 0 0] 43 (0, 0))) ∧ (w'.heap[gb560]? = some (.cells #[.int .i64 0, .int .i64 0, .int .i64 0, .int .i64 0, .int .i64 0, .int .i64 0, .int .i64 0, .int .i64 0, .int .i64 0, .int .i64 0, .int .i64 0, .int .i64 0, .bool false, .int .i64 0, .int .i64 0, .int .i64 0, .int .i64 0, .slice none 0 0] 43 (0, 0))) ∧ (w'.heap[s_.2]? = some (.cells #[.int .i64 0, .int .i64 0, .int .i64 0, .int .i64 0, .int .i64 0, .int .i64 0, .int .i64 0, .int .i64 0, .int .i64 0, .int .i64 0, .int .i64 0, .int .i64 0, .bool false, .int .i64 0, .int .i64 0, .int .i64 0, .int .i64 0, .slice none 0 0] 43 (0, 0))) ∧ (w.heap.size ≤ s_.2) ∧ (w.heap.size ≤ s_.2) ∧ (gb559 ≠ s_.2) ∧ (s_.2 ≠ gb559) ∧ (gb560 ≠ s_.2) ∧ (s_.2 ≠ gb560) ∧ (Below w.heap.size w w')) ?_ ?_
        rotate_left
        ·intro hCont
         refine two_ (i := 7) (j := 8) (Ni := some 74) (Nj := some 14) #[true, true, true, true, true, true, true, true, false, false] #[true, true, true, true, true, true, true, false, true, false] rfl rfl rfl rfl (two_of HT_.out (by kernel_rfl)) (by decide) (by decide) (fun K hK => ?_) (fun K hK => ?_)
         ·skip
          refine goes_ Try.func50 (by kernel_rfl) rfl #[.int .i64 (rd t561 0), .int .i64 (rd t561 1), .slice Ao37 x12_2.length co37] (by rfl) rfl rfl (by (try simp only [List.map_toArray, List.map_cons, List.map_nil]); first | done | rfl | (simp only [List.length_drop, List.length_take]; rfl)) ?_
          with_reducible refine (headgateref18_of.calls (rd t561 0) (rd t561 1) _ _ x12_2 t583 t584 t585 t586 t587 t588 t589 t590 t591 t592 t593 t594 t595 t596 t597 t598 t599 t600 _ ?side1 ?side2 A35.out).mono ?_
          (case side1 => repeat (first | exact (Kd.R_reads' HO_12.out).2.2 | (with_reducible refine Kd.C_alloc ?_ _) | (with_reducible refine Kd.C_drewN ?_ _) | (with_reducible refine Kd.C_drew ?_)))
          (case side2 => exact (Kd.R_reads' HO_12.out).2.1)
          rintro e w39 ⟨v601, rfl, ho0, hb⟩
          have HS0_ := (hb.cell (World.block_lt_of_cell? _ _ (hHeld.1))).trans (hHeld.1)
          have HS1_ := (hb.cell (World.block_lt_of_cell? _ _ (hHeld.2))).trans (hHeld.2)
          refine ⟨_, rfl, ?_⟩
          have n0_ := Aside0.mk (Kd.R_below (Zz.r HO_5.out) hb)
          have n1_ := Aside0.mk (Kd.R_below (Zz.r HO_8.out) hb)
          have n2_ := Aside0.mk (Kd.R_below (Zz.r HO_9.out) hb)
          have n3_ := Aside0.mk (Kd.R_below (Zz.r HO_12.out) hb)
          have n4_ := Aside0.mk (Kd.R_lower ho0 (below_size (Zz.i HB.out)))
          have n5_ := Aside0.mk (Zz.bb BK559.out hb)
          have n6_ := Aside0.mk (Zz.bb BK560.out hb)
          have n7_ := Aside0.mk (below_step (Zz.i HB.out) hb)
          clear HO_5
          clear HO_8
          clear HO_9
          clear HO_12
          clear BK559
          clear BK560
          clear HB
          have HO_5 := n0_
          have HO_8 := n1_
          have HO_9 := n2_
          have HO_12 := n3_
          have HO602 := n4_
          have BK559 := n5_
          have BK560 := n6_
          have HB := n7_
          clear n0_ n1_ n2_ n3_ n4_ n5_ n6_ n7_
          (try clear hb)
          (try clear hb2)
          (try clear hk)
          (try clear hi)
          (try clear ho0)
          refine hK.out _ _ ⟨HS0_, HS1_⟩ (fun hHeld => ?_)
          clear hK K
          refine norm_ (a' := ?_) ?_ ?_
          rotate_left
          ·show Act.put _ (some 74) _ = _
           simp only [Act.put, List.setIfInBounds_toArray, List.set_cons_zero, List.set_cons_succ, i64_w, i32_w]
           rfl
          refine one_ (i := 8) (N := some 14) #[true, true, true, true, true, true, true, true, true, false] rfl rfl (one_of HT_.out (by kernel_rfl)) (by decide) (fun K hK => ?_)
          refine box_step ?hg (N := 14) ?hd (cs := #[.int .i64 0, .int .i64 0, .int .i64 0, .int .i64 0, .int .i64 0, .int .i64 0, .int .i64 0, .int .i64 0, .int .i64 0, .int .i64 0, .int .i64 0, .int .i64 0, .bool false, .int .i64 0, .int .i64 0, .int .i64 0, .int .i64 0, .slice none 0 0]) (t := 43) ?hr ?_; (case hd => rfl); (case hg => rfl); (case hr => first | (go_simp; done) | (go_simp; rfl))
          intro gb603 hg w40 hbox hb
          have HS0_ := (hb.cell (World.block_lt_of_cell? _ _ (hHeld.1))).trans (hHeld.1)
          have HS1_ := (hb.cell (World.block_lt_of_cell? _ _ (hHeld.2))).trans (hHeld.2)
          have HNE0_603 : (ad566 : Addr).block ≠ gb603 := (by rw [hg]; exact Nat.ne_of_lt (World.block_lt_of_cell? _ _ (hHeld.1)))
          have HNE1_603 : (⟨ad566.block, ad566.off + 1, none⟩ : Addr).block ≠ gb603 := (by rw [hg]; exact Nat.ne_of_lt (World.block_lt_of_cell? _ _ (hHeld.2)))
          have n0_ := Aside0.mk (Kd.R_below (Zz.r HO_5.out) hb)
          have n1_ := Aside0.mk (Kd.R_below (Zz.r HO_8.out) hb)
          have n2_ := Aside0.mk (Kd.R_below (Zz.r HO_9.out) hb)
          have n3_ := Aside0.mk (Kd.R_below (Zz.r HO_12.out) hb)
          have n4_ := Aside0.mk (Kd.R_below (Zz.r HO602.out) hb)
          have n5_ := Aside0.mk (Zz.bb BK559.out hb)
          have n6_ := Aside0.mk (Zz.bb BK560.out hb)
          have n7_ := Aside0.mk (below_step (Zz.i HB.out) hb)
          have n8_ := Aside0.mk (hbox)
          have n9_ := Aside0.mk (Zz.ge hg HB.out)
          have n10_ := Aside0.mk (Zz.ge hg HB.out)
          have n11_ := Aside0.mk (Zz.nl hg BK559.out)
          have n12_ := Aside0.mk (Zz.ng hg BK559.out)
          have n13_ := Aside0.mk (Zz.nl hg BK560.out)
          have n14_ := Aside0.mk (Zz.ng hg BK560.out)
          clear HO_5
          clear HO_8
          clear HO_9
          clear HO_12
          clear HO602
          clear BK559
          clear BK560
          clear HB
          have HO_5 := n0_
          have HO_8 := n1_
          have HO_9 := n2_
          have HO_12 := n3_
          have HO602 := n4_
          have BK559 := n5_
          have BK560 := n6_
          have HB := n7_
          have BK603 := n8_
          have GW603 := n9_
          have GE603 := n10_
          have NB559_603 := n11_
          have NB603_559 := n12_
          have NB560_603 := n13_
          have NB603_560 := n14_
          clear n0_ n1_ n2_ n3_ n4_ n5_ n6_ n7_ n8_ n9_ n10_ n11_ n12_ n13_ n14_
          clear hb hbox hg
          refine hK.out _ _ ⟨HS0_, HS1_⟩ (fun hHeld => ?_)
          clear hK K
          refine norm_ (a' := ?_) ?_ ?_
          rotate_left
          ·show Act.put _ (some 14) _ = _
           simp only [Act.put, List.setIfInBounds_toArray, List.set_cons_zero, List.set_cons_succ, i64_w, i32_w]
           rfl
          exact norm_ (by simp only [putAll, Act.put, List.setIfInBounds_toArray, List.set_cons_zero, List.set_cons_succ]) (hCont (v601, gb603) _ ⟨hHeld, (Zz.r HO602.out), (Zz.r HO_12.out), (by (with_reducible repeat (first | apply Kd.R_alloc | apply Kd.R_drewN | apply Kd.R_drew)); exact Kd.R_mono HO_5.out (fun _ hk => ⟨hk.2.2, ⟨hk.1, hk.2.1⟩⟩)), (by (with_reducible repeat (first | apply Kd.R_alloc | apply Kd.R_drewN | apply Kd.R_drew)); exact Kd.R_mono HO_8.out (fun _ hk => ⟨hk.2.2, ⟨hk.1, hk.2.1⟩⟩)), (by (with_reducible repeat (first | apply Kd.R_alloc | apply Kd.R_drewN | apply Kd.R_drew)); exact Kd.R_mono HO_9.out (fun _ hk => ⟨hk.2.2, ⟨hk.1, hk.2.1⟩⟩)), (Zz.p BK559.out), (Zz.p BK560.out), (Zz.p BK603.out), GW603.out, GE603.out, NB559_603.out, NB603_559.out, NB560_603.out, NB603_560.out, (Zz.i HB.out)⟩)
         skip
         refine box_step ?hg (N := 14) ?hd (cs := #[.int .i64 0, .int .i64 0, .int .i64 0, .int .i64 0, .int .i64 0, .int .i64 0, .int .i64 0, .int .i64 0, .int .i64 0, .int .i64 0, .int .i64 0, .int .i64 0, .bool false, .int .i64 0, .int .i64 0, .int .i64 0, .int .i64 0, .slice none 0 0]) (t := 43) ?hr ?_; (case hd => rfl); (case hg => rfl); (case hr => first | (go_simp; done) | (go_simp; rfl))
         intro gb603 hg w39 hbox hb
         have HS0_ := (hb.cell (World.block_lt_of_cell? _ _ (hHeld.1))).trans (hHeld.1)
         have HS1_ := (hb.cell (World.block_lt_of_cell? _ _ (hHeld.2))).trans (hHeld.2)
         have HNE0_603 : (ad566 : Addr).block ≠ gb603 := (by rw [hg]; exact Nat.ne_of_lt (World.block_lt_of_cell? _ _ (hHeld.1)))
         have HNE1_603 : (⟨ad566.block, ad566.off + 1, none⟩ : Addr).block ≠ gb603 := (by rw [hg]; exact Nat.ne_of_lt (World.block_lt_of_cell? _ _ (hHeld.2)))
         have n0_ := Aside0.mk (Kd.R_below (Zz.r HO_5.out) hb)
         have n1_ := Aside0.mk (Kd.R_below (Zz.r HO_8.out) hb)
         have n2_ := Aside0.mk (Kd.R_below (Zz.r HO_9.out) hb)
         have n3_ := Aside0.mk (Kd.R_below (Zz.r HO_12.out) hb)
         have n4_ := Aside0.mk (Zz.bb BK559.out hb)
         have n5_ := Aside0.mk (Zz.bb BK560.out hb)
         have n6_ := Aside0.mk (below_step (Zz.i HB.out) hb)
         have n7_ := Aside0.mk (hbox)
         have n8_ := Aside0.mk (Zz.ge hg HB.out)
         have n9_ := Aside0.mk (Zz.ge hg HB.out)
         have n10_ := Aside0.mk (Zz.nl hg BK559.out)
         have n11_ := Aside0.mk (Zz.ng hg BK559.out)
         have n12_ := Aside0.mk (Zz.nl hg BK560.out)
         have n13_ := Aside0.mk (Zz.ng hg BK560.out)
         clear HO_5
         clear HO_8
         clear HO_9
         clear HO_12
         clear BK559
         clear BK560
         clear HB
         have HO_5 := n0_
         have HO_8 := n1_
         have HO_9 := n2_
         have HO_12 := n3_
         have BK559 := n4_
         have BK560 := n5_
         have HB := n6_
         have BK603 := n7_
         have GW603 := n8_
         have GE603 := n9_
         have NB559_603 := n10_
         have NB603_559 := n11_
         have NB560_603 := n12_
         have NB603_560 := n13_
         clear n0_ n1_ n2_ n3_ n4_ n5_ n6_ n7_ n8_ n9_ n10_ n11_ n12_ n13_
         clear hb hbox hg
         refine hK.out _ _ ⟨HS0_, HS1_⟩ (fun hHeld => ?_)
         clear hK K
         refine norm_ (a' := ?_) ?_ ?_
         rotate_left
         ·show Act.put _ (some 14) _ = _
          simp only [Act.put, List.setIfInBounds_toArray, List.set_cons_zero, List.set_cons_succ, i64_w, i32_w]
          rfl
         refine one_ (i := 7) (N := some 74) #[true, true, true, true, true, true, true, true, true, false] rfl rfl (one_of HT_.out (by kernel_rfl)) (by decide) (fun K hK => ?_)
         refine goes_ Try.func50 (by kernel_rfl) rfl #[.int .i64 (rd t561 0), .int .i64 (rd t561 1), .slice Ao37 x12_2.length co37] (by rfl) rfl rfl (by (try simp only [List.map_toArray, List.map_cons, List.map_nil]); first | done | rfl | (simp only [List.length_drop, List.length_take]; rfl)) ?_
         with_reducible refine (headgateref18_of.calls (rd t561 0) (rd t561 1) _ _ x12_2 t583 t584 t585 t586 t587 t588 t589 t590 t591 t592 t593 t594 t595 t596 t597 t598 t599 t600 _ ?side1 ?side2 A35.out).mono ?_
         (case side1 => repeat (first | exact (Kd.R_reads' HO_12.out).2.2 | (with_reducible refine Kd.C_alloc ?_ _) | (with_reducible refine Kd.C_drewN ?_ _) | (with_reducible refine Kd.C_drew ?_)))
         (case side2 => exact (Kd.R_reads' HO_12.out).2.1)
         rintro e w40 ⟨v601, rfl, ho0, hb⟩
         have HS0_ := (hb.cell (World.block_lt_of_cell? _ _ (hHeld.1))).trans (hHeld.1)
         have HS1_ := (hb.cell (World.block_lt_of_cell? _ _ (hHeld.2))).trans (hHeld.2)
         refine ⟨_, rfl, ?_⟩
         have n0_ := Aside0.mk (Kd.R_below (Zz.r HO_5.out) hb)
         have n1_ := Aside0.mk (Kd.R_below (Zz.r HO_8.out) hb)
         have n2_ := Aside0.mk (Kd.R_below (Zz.r HO_9.out) hb)
         have n3_ := Aside0.mk (Kd.R_below (Zz.r HO_12.out) hb)
         have n4_ := Aside0.mk (Kd.R_lower ho0 (below_size (Zz.i HB.out)))
         have n5_ := Aside0.mk (Zz.bb BK559.out hb)
         have n6_ := Aside0.mk (Zz.bb BK560.out hb)
         have n7_ := Aside0.mk (Zz.bb BK603.out hb)
         have n8_ := Aside0.mk (below_step (Zz.i HB.out) hb)
         clear HO_5
         clear HO_8
         clear HO_9
         clear HO_12
         clear BK559
         clear BK560
         clear BK603
         clear HB
         have HO_5 := n0_
         have HO_8 := n1_
         have HO_9 := n2_
         have HO_12 := n3_
         have HO602 := n4_
         have BK559 := n5_
         have BK560 := n6_
         have BK603 := n7_
         have HB := n8_
         clear n0_ n1_ n2_ n3_ n4_ n5_ n6_ n7_ n8_
         (try clear hb)
         (try clear hb2)
         (try clear hk)
         (try clear hi)
         (try clear ho0)
         refine hK.out _ _ ⟨HS0_, HS1_⟩ (fun hHeld => ?_)
         clear hK K
         refine norm_ (a' := ?_) ?_ ?_
         rotate_left
         ·show Act.put _ (some 74) _ = _
          simp only [Act.put, List.setIfInBounds_toArray, List.set_cons_zero, List.set_cons_succ, i64_w, i32_w]
          rfl
         exact norm_ (by simp only [putAll, Act.put, List.setIfInBounds_toArray, List.set_cons_zero, List.set_cons_succ]) (hCont (v601, gb603) _ ⟨hHeld, (Zz.r HO602.out), (Zz.r HO_12.out), (by (with_reducible repeat (first | apply Kd.R_alloc | apply Kd.R_drewN | apply Kd.R_drew)); exact Kd.R_mono HO_5.out (fun _ hk => ⟨hk.2.2, ⟨hk.1, hk.2.1⟩⟩)), (by (with_reducible repeat (first | apply Kd.R_alloc | apply Kd.R_drewN | apply Kd.R_drew)); exact Kd.R_mono HO_8.out (fun _ hk => ⟨hk.2.2, ⟨hk.1, hk.2.1⟩⟩)), (by (with_reducible repeat (first | apply Kd.R_alloc | apply Kd.R_drewN | apply Kd.R_drew)); exact Kd.R_mono HO_9.out (fun _ hk => ⟨hk.2.2, ⟨hk.1, hk.2.1⟩⟩)), (Zz.p BK559.out), (Zz.p BK560.out), (Zz.p BK603.out), GW603.out, GE603.out, NB559_603.out, NB603_559.out, NB560_603.out, NB603_560.out, (Zz.i HB.out)⟩)
        rintro ⟨v601, gb603⟩ w41 ⟨hS_, h0_, h1_, h2_, h3_, h4_, h5_, h6_, h7_, h8_, h9_, h10_, h11_, h12_, h13_, h14_⟩
        have n0_ : Aside0 (Kd.R k57 57 w41 w.heap.size (fun _ => True) v601 t600) := ⟨h0_⟩
        have n1_ : Aside0 (Kd.R (Kd.int .i64) 3 w41 w.heap.size (fun k_ => some k_ ≠ (.slice (some ad566) t561.length co13 : Value).ownBlock ∧ some k_ ≠ (.slice Ao15 t567.length co15 : Value).ownBlock ∧ some k_ ≠ (v573 : Value).ownBlock) (.slice Ao37 x12_2.length co37) x12_2) := ⟨h1_⟩
        have n2_ : Aside0 (Kd.R (Kd.int .i64) 3 w41 w.heap.size (fun k_ => some k_ ≠ (.slice Ao37 x12_2.length co37 : Value).ownBlock ∧ some k_ ≠ (.slice Ao15 t567.length co15 : Value).ownBlock ∧ some k_ ≠ (v573 : Value).ownBlock) (.slice (some ad566) t561.length co13) t561) := ⟨h2_⟩
        have n3_ : Aside0 (Kd.R (Kd.int .i64) 3 w41 w.heap.size (fun k_ => some k_ ≠ (.slice Ao37 x12_2.length co37 : Value).ownBlock ∧ some k_ ≠ (.slice (some ad566) t561.length co13 : Value).ownBlock ∧ some k_ ≠ (v573 : Value).ownBlock) (.slice Ao15 t567.length co15) t567) := ⟨h3_⟩
        have n4_ : Aside0 (Kd.R (Kd.int .i64) 3 w41 w.heap.size (fun k_ => some k_ ≠ (.slice Ao37 x12_2.length co37 : Value).ownBlock ∧ some k_ ≠ (.slice (some ad566) t561.length co13 : Value).ownBlock ∧ some k_ ≠ (.slice Ao15 t567.length co15 : Value).ownBlock) v573 t570) := ⟨h4_⟩
        have n5_ : Aside0 (w41.heap[gb559]? = some (.cells #[.int .i64 0, .int .i64 0, .int .i64 0, .int .i64 0, .int .i64 0, .int .i64 0, .int .i64 0, .int .i64 0, .int .i64 0, .int .i64 0, .int .i64 0, .int .i64 0, .bool false, .int .i64 0, .int .i64 0, .int .i64 0, .int .i64 0, .slice none 0 0] 43 (0, 0))) := ⟨h5_⟩
        have n6_ : Aside0 (w41.heap[gb560]? = some (.cells #[.int .i64 0, .int .i64 0, .int .i64 0, .int .i64 0, .int .i64 0, .int .i64 0, .int .i64 0, .int .i64 0, .int .i64 0, .int .i64 0, .int .i64 0, .int .i64 0, .bool false, .int .i64 0, .int .i64 0, .int .i64 0, .int .i64 0, .slice none 0 0] 43 (0, 0))) := ⟨h6_⟩
        have n7_ : Aside0 (w41.heap[gb603]? = some (.cells #[.int .i64 0, .int .i64 0, .int .i64 0, .int .i64 0, .int .i64 0, .int .i64 0, .int .i64 0, .int .i64 0, .int .i64 0, .int .i64 0, .int .i64 0, .int .i64 0, .bool false, .int .i64 0, .int .i64 0, .int .i64 0, .int .i64 0, .slice none 0 0] 43 (0, 0))) := ⟨h7_⟩
        have n8_ : Aside0 (w.heap.size ≤ gb603) := ⟨h8_⟩
        have n9_ : Aside0 (w.heap.size ≤ gb603) := ⟨h9_⟩
        have n10_ : Aside0 (gb559 ≠ gb603) := ⟨h10_⟩
        have n11_ : Aside0 (gb603 ≠ gb559) := ⟨h11_⟩
        have n12_ : Aside0 (gb560 ≠ gb603) := ⟨h12_⟩
        have n13_ : Aside0 (gb603 ≠ gb560) := ⟨h13_⟩
        have n14_ : Aside0 (Below w.heap.size w w41) := ⟨h14_⟩
        clear HO_5
        clear HO_8
        clear HO_9
        clear HO_12
        clear BK559
        clear BK560
        clear HB
        clear h0_ h1_ h2_ h3_ h4_ h5_ h6_ h7_ h8_ h9_ h10_ h11_ h12_ h13_ h14_
        have HO602 := n0_
        have HO_12 := n1_
        have HO_5 := n2_
        have HO_8 := n3_
        have HO_9 := n4_
        have BK559 := n5_
        have BK560 := n6_
        have BK603 := n7_
        have GW603 := n8_
        have GE603 := n9_
        have NB559_603 := n10_
        have NB603_559 := n11_
        have NB560_603 := n12_
        have NB603_560 := n13_
        have HB := n14_
        clear n0_ n1_ n2_ n3_ n4_ n5_ n6_ n7_ n8_ n9_ n10_ n11_ n12_ n13_ n14_
        have hHeld : w41.cell? ad566 = some (.int .i64 (rd t561 0)) ∧ w41.cell? ⟨ad566.block, ad566.off + 1, none⟩ = some (.int .i64 (rd t561 1)) := hS_
        obtain ⟨Ao59, co59, eo59⟩ := Kd.R_slice HO602.out
        (first | subst eo59 | (injection eo59 with f1_ f2_ f3_; have f4_ := f1_.symm; have f5_ := f3_.symm; clear f1_ f2_ f3_; subst f4_; subst f5_))
        refine norm_ (a' := ?_) ?_ ?_
        rotate_left
        ·simp only [putAll, Act.put, List.setIfInBounds_toArray, List.set_cons_zero, List.set_cons_succ]
         rfl
        refine one_ (i := 9) (N := none) #[true, true, true, true, true, true, true, true, true, true] rfl rfl (one_of HT_.out (by kernel_rfl)) (by decide) (fun K hK => ?_)
        have hs42 : w41.cell? ⟨gb603, 0, none⟩ = some (.int .i64 0) := (blk_cell BK603.out 0).trans rfl
        have hfs42 := blk_frozen BK603.out 0
        have hns42_0 := NB559_603.out
        have hns42_1 := NB560_603.out
        have hms42_0 := NB603_559.out
        have hms42_1 := NB603_560.out
        have hs43 : w41.cell? ⟨gb603, 1, none⟩ = some (.int .i64 0) := (blk_cell BK603.out 1).trans rfl
        have hfs43 := blk_frozen BK603.out 1
        have hns43_0 := NB559_603.out
        have hns43_1 := NB560_603.out
        have hms43_0 := NB603_559.out
        have hms43_1 := NB603_560.out
        have hs44 : w41.cell? ⟨gb603, 2, none⟩ = some (.int .i64 0) := (blk_cell BK603.out 2).trans rfl
        have hfs44 := blk_frozen BK603.out 2
        have hns44_0 := NB559_603.out
        have hns44_1 := NB560_603.out
        have hms44_0 := NB603_559.out
        have hms44_1 := NB603_560.out
        have hs45 : w41.cell? ⟨gb603, 3, none⟩ = some (.int .i64 0) := (blk_cell BK603.out 3).trans rfl
        have hfs45 := blk_frozen BK603.out 3
        have hns45_0 := NB559_603.out
        have hns45_1 := NB560_603.out
        have hms45_0 := NB603_559.out
        have hms45_1 := NB603_560.out
        have hs46 : w41.cell? ⟨gb603, 4, none⟩ = some (.int .i64 0) := (blk_cell BK603.out 4).trans rfl
        have hfs46 := blk_frozen BK603.out 4
        have hns46_0 := NB559_603.out
        have hns46_1 := NB560_603.out
        have hms46_0 := NB603_559.out
        have hms46_1 := NB603_560.out
        have hs47 : w41.cell? ⟨gb603, 5, none⟩ = some (.int .i64 0) := (blk_cell BK603.out 5).trans rfl
        have hfs47 := blk_frozen BK603.out 5
        have hns47_0 := NB559_603.out
        have hns47_1 := NB560_603.out
        have hms47_0 := NB603_559.out
        have hms47_1 := NB603_560.out
        have hs48 : w41.cell? ⟨gb603, 6, none⟩ = some (.int .i64 0) := (blk_cell BK603.out 6).trans rfl
        have hfs48 := blk_frozen BK603.out 6
        have hns48_0 := NB559_603.out
        have hns48_1 := NB560_603.out
        have hms48_0 := NB603_559.out
        have hms48_1 := NB603_560.out
        have hs49 : w41.cell? ⟨gb603, 7, none⟩ = some (.int .i64 0) := (blk_cell BK603.out 7).trans rfl
        have hfs49 := blk_frozen BK603.out 7
        have hns49_0 := NB559_603.out
        have hns49_1 := NB560_603.out
        have hms49_0 := NB603_559.out
        have hms49_1 := NB603_560.out
        have hs50 : w41.cell? ⟨gb603, 8, none⟩ = some (.int .i64 0) := (blk_cell BK603.out 8).trans rfl
        have hfs50 := blk_frozen BK603.out 8
        have hns50_0 := NB559_603.out
        have hns50_1 := NB560_603.out
        have hms50_0 := NB603_559.out
        have hms50_1 := NB603_560.out
        have hs51 : w41.cell? ⟨gb603, 9, none⟩ = some (.int .i64 0) := (blk_cell BK603.out 9).trans rfl
        have hfs51 := blk_frozen BK603.out 9
        have hns51_0 := NB559_603.out
        have hns51_1 := NB560_603.out
        have hms51_0 := NB603_559.out
        have hms51_1 := NB603_560.out
        have hs52 : w41.cell? ⟨gb603, 10, none⟩ = some (.int .i64 0) := (blk_cell BK603.out 10).trans rfl
        have hfs52 := blk_frozen BK603.out 10
        have hns52_0 := NB559_603.out
        have hns52_1 := NB560_603.out
        have hms52_0 := NB603_559.out
        have hms52_1 := NB603_560.out
        have hs53 : w41.cell? ⟨gb603, 11, none⟩ = some (.int .i64 0) := (blk_cell BK603.out 11).trans rfl
        have hfs53 := blk_frozen BK603.out 11
        have hns53_0 := NB559_603.out
        have hns53_1 := NB560_603.out
        have hms53_0 := NB603_559.out
        have hms53_1 := NB603_560.out
        have hs54 : w41.cell? ⟨gb603, 12, none⟩ = some (.bool false) := (blk_cell BK603.out 12).trans rfl
        have hfs54 := blk_frozen BK603.out 12
        have hns54_0 := NB559_603.out
        have hns54_1 := NB560_603.out
        have hms54_0 := NB603_559.out
        have hms54_1 := NB603_560.out
        have hs55 : w41.cell? ⟨gb603, 13, none⟩ = some (.int .i64 0) := (blk_cell BK603.out 13).trans rfl
        have hfs55 := blk_frozen BK603.out 13
        have hns55_0 := NB559_603.out
        have hns55_1 := NB560_603.out
        have hms55_0 := NB603_559.out
        have hms55_1 := NB603_560.out
        have hs56 : w41.cell? ⟨gb603, 14, none⟩ = some (.int .i64 0) := (blk_cell BK603.out 14).trans rfl
        have hfs56 := blk_frozen BK603.out 14
        have hns56_0 := NB559_603.out
        have hns56_1 := NB560_603.out
        have hms56_0 := NB603_559.out
        have hms56_1 := NB603_560.out
        have hs57 : w41.cell? ⟨gb603, 15, none⟩ = some (.int .i64 0) := (blk_cell BK603.out 15).trans rfl
        have hfs57 := blk_frozen BK603.out 15
        have hns57_0 := NB559_603.out
        have hns57_1 := NB560_603.out
        have hms57_0 := NB603_559.out
        have hms57_1 := NB603_560.out
        have hs58 : w41.cell? ⟨gb603, 16, none⟩ = some (.int .i64 0) := (blk_cell BK603.out 16).trans rfl
        have hfs58 := blk_frozen BK603.out 16
        have hns58_0 := NB559_603.out
        have hns58_1 := NB560_603.out
        have hms58_0 := NB603_559.out
        have hms58_1 := NB603_560.out
        have hs60 : w41.cell? ⟨gb603, 17, none⟩ = some (.slice none 0 0) := (blk_cell BK603.out 17).trans rfl
        have hfs60 := blk_frozen BK603.out 17
        have hns60_0 := NB559_603.out
        have hns60_1 := NB560_603.out
        have hms60_0 := NB603_559.out
        have hms60_1 := NB603_560.out
        refine skip_ (w1 := ?_) (by rfl) rfl ?_ ?_
        rotate_left
        ·go_simp
         rfl
        refine hK.out _ _ ⟨(headgateref18_DecodeAsk.far18 (g := gb603) (by first | exact HNE0_603 | exact Kd.own_blk (Kd.R_ne HO_5.out BK603.out (by decide)) | (rw [add_block]; exact Kd.own_blk (Kd.R_ne HO_5.out BK603.out (by decide))) | (show (Addr.add _ _).block ≠ _; rw [add_block]; exact Kd.own_blk (Kd.R_ne HO_5.out BK603.out (by decide))) | (dsimp only; exact Kd.own_blk (Kd.R_ne HO_5.out BK603.out (by decide)))) (hHeld.1)), (headgateref18_DecodeAsk.far18 (g := gb603) (by first | exact HNE1_603 | exact Kd.own_blk (Kd.R_ne HO_5.out BK603.out (by decide)) | (rw [add_block]; exact Kd.own_blk (Kd.R_ne HO_5.out BK603.out (by decide))) | (show (Addr.add _ _).block ≠ _; rw [add_block]; exact Kd.own_blk (Kd.R_ne HO_5.out BK603.out (by decide))) | (dsimp only; exact Kd.own_blk (Kd.R_ne HO_5.out BK603.out (by decide)))) (hHeld.2))⟩ (fun hHeld => ?_)
        clear hK K
        refine done_ (done_of HT_.out (by kernel_rfl)) ?_
        go_upto_region 15 with (fail)
        go_cut [77] (fun v77 wc => ∃ (kq : Nat) (x77_35 : Bool), v77 = .bool x77_35 ∧ Aside0 (headgateref18_DecodeAsk.j2 kq t571 x12_2 x77_35 0 0 0 0 0 0 0 0 0 0 0 0 false 0 0 0 0 t583 t584 t585 t586 t587 t588 t589 t590 t591 t592 t593 t594 t595 t596 t597 t598 t599 t600 = some (r1, r2, r3, r4, r5, r6, r7, r8, r9, r10, r11, r12, r13, r14, r15, r16, r17, r18, r19)) ∧ Aside0 (kq ≤ k2) ∧ Aside0 (Kd.R (Kd.int .i64) 3 wc w.heap.size (fun _ => True) (.slice Ao37 x12_2.length co37) x12_2) ∧ Aside0 (Kd.R k57 57 wc w.heap.size (fun _ => True) (.slice Ao59 t600.length co59) t600) ∧ Aside0 (wc.heap[gb559]? = some (.cells #[.int .i64 0, .int .i64 0, .int .i64 0, .int .i64 0, .int .i64 0, .int .i64 0, .int .i64 0, .int .i64 0, .int .i64 0, .int .i64 0, .int .i64 0, .int .i64 0, .bool false, .int .i64 0, .int .i64 0, .int .i64 0, .int .i64 0, (.slice none 0 0)] 43 (0, 0))) ∧ Aside0 (wc.heap[gb560]? = some (.cells #[.int .i64 0, .int .i64 0, .int .i64 0, .int .i64 0, .int .i64 0, .int .i64 0, .int .i64 0, .int .i64 0, .int .i64 0, .int .i64 0, .int .i64 0, .int .i64 0, .bool false, .int .i64 0, .int .i64 0, .int .i64 0, .int .i64 0, (.slice none 0 0)] 43 (0, 0))) ∧ Aside0 (wc.heap[gb603]? = some (.cells #[.int .i64 t583, .int .i64 t584, .int .i64 t585, .int .i64 t586, .int .i64 t587, .int .i64 t588, .int .i64 t589, .int .i64 t590, .int .i64 t591, .int .i64 t592, .int .i64 t593, .int .i64 t594, .bool t595, .int .i64 t596, .int .i64 t597, .int .i64 t598, .int .i64 t599, (.slice Ao59 t600.length co59)] 43 (0, 0))) ∧ Aside0 (Below w.heap.size w wc))
        case first =>
         have H := HC36.out
         clear HC36
         have H' := Aside0.mk H
         clear H
         have hnb61 := NB603_559.out
         have hnc61 := NB559_603.out
         have hnb62 := NB603_560.out
         have hnc62 := NB560_603.out
         have hcz63 := Zz.c18 BK603.out
         have hfz63 := blk_frozen BK603.out
         go_wp2
         go_meet
         case rel => exact ⟨_, ((t583 == 3)), Zz.q, H', ⟨by have := HJ6.out; have := HK2.out; first | omega | exact Nat.le_refl _⟩, ⟨by (with_reducible repeat (first | apply Kd.R_alloc | apply Kd.R_drewN | apply Kd.R_drew)); exact Kd.R_mono (Zz.f18 (Kd.R_types HO_12.out BK603.out (by decide)) (fun _ hk => hk.2)) (fun _ hk => trivial)⟩, ⟨by (with_reducible repeat (first | apply Kd.R_alloc | apply Kd.R_drewN | apply Kd.R_drew)); exact Kd.R_mono (Zz.f18 (Kd.R_types HO602.out BK603.out (by decide)) (fun _ hk => hk.2)) (fun _ hk => trivial)⟩, ⟨by exact Zz.q18 BK559.out NB559_603.out⟩, ⟨by exact Zz.q18 BK560.out NB560_603.out⟩, ⟨by (with_reducible repeat (first | refine blk_drewN ?_ _ | refine blk_drew ?_ | refine blk_alloc ?_ _)); exact Zz.u18_0_17 BK603.out⟩, ⟨Zz.i HB.out⟩⟩
        clear HC36
        (try clear c2);(try clear p2);(try clear c3);(try clear c5);(try clear p5);(try clear q5);(try clear hx5);(try clear qi5);(try clear c6);(try clear p6);(try clear c24);(try clear c24b0);(try clear c25);(try clear c26);(try clear c27);(try clear c28);(try clear c33);(try clear c33b0);(try clear c33b1);(try clear c34);(try clear c34b0);(try clear c34b1);(try clear c50);(try clear p58);(try clear q58);(try clear hx58);(try clear qi58);(try clear c61);(try clear c62);(try clear hcz63);(try clear hfz63);(try clear hx581_0);(try clear hx582_0);(try clear p581);(try clear p582);(try clear q581);(try clear q582)
        obtain ⟨kq, x77_35, rfl, HA, HJ35, HO_12, HO_604017, BK559, BK560, BK603, HB⟩ := hcut
        cases kq with
        | zero => exact absurd HA.out (by simp [headgateref18_DecodeAsk.j2])
        | succ kj35 =>
         have H := HA.out
         clear HA
         simp only [headgateref18_DecodeAsk.j2] at H
         by_cases c64 : x77_35 = true
         ·subst c64
          rw [if_pos rfl] at H
          replace H := Option.bind_eq_some_iff.mp H
          obtain ⟨⟨t604, t605, t606⟩, A650, H⟩ := H
          try dsimp only at H
          have A65 := Aside0.mk A650
          clear A650
          replace H := Option.bind_eq_some_iff.mp H
          obtain ⟨⟨t607, t608, t609, t610, t611, t614⟩, A660, H⟩ := H
          try dsimp only at H
          have A66 := Aside0.mk A660
          clear A660
          have HC67 := Aside0.mk H
          clear H
          go_upto_region 18 with (first | ((with_reducible refine gate_callee (f := 51) rfl ?_); refine goesL_ (some 82) rfl rfl Try.func51 (by kernel_rfl) rfl #[.string t571, .int .i64 (t571.size : Int)] rfl Zz.g ?_; (with_reducible refine (headgateref01_TakeText.calls kj35 t571 (t571.size : Int) t604 t605 t606 _ A65.out).mono ?_); rintro e w68 ⟨rfl, hb⟩; refine ⟨_, rfl, ?_⟩; replace HO_12 := Aside0.mk (Kd.R_below (Zz.r HO_12.out) hb); replace HO_604017 := Aside0.mk (Kd.R_below (Zz.r HO_604017.out) hb); replace BK559 := Aside0.mk (Zz.bb BK559.out hb); replace BK560 := Aside0.mk (Zz.bb BK560.out hb); replace BK603 := Aside0.mk (Zz.bb BK603.out hb); replace HB := Aside0.mk (below_step (Zz.i HB.out) hb); (try clear hb)) | ((with_reducible refine gate_callee (f := 52) rfl ?_); refine goesL_ (some 88) rfl rfl Try.func52 (by kernel_rfl) rfl #[.string t604] rfl Zz.g ?_; (with_reducible refine (headgateref06_Decode.calls kj35 t604 t607 t608 t609 t610 t611 t614 _ A66.out).mono ?_); rintro e w69 ⟨v612, rfl, ho0, hb⟩; refine ⟨_, rfl, ?_⟩; replace HO_12 := Aside0.mk (Kd.R_below (Zz.r HO_12.out) hb); have HO613 := Aside0.mk (Kd.R_lower (Kd.R_new' ho0 (Kd.R_lt (Zz.r HO_604017.out))) (below_size (Zz.i HB.out))); replace HO_604017 := Aside0.mk (Kd.R_elder' (Zz.r HO_604017.out) (Kd.R_base ho0) hb); replace BK559 := Aside0.mk (Zz.bb BK559.out hb); replace BK560 := Aside0.mk (Zz.bb BK560.out hb); replace BK603 := Aside0.mk (Zz.bb BK603.out hb); replace HB := Aside0.mk (below_step (Zz.i HB.out) hb); (try clear hb); (try clear ho0)) | ((with_reducible refine gate_dst (N := 18) rfl ?_); refine box_event ?hg (N := 18) ?hd (cs := #[.int .i64 0, .int .i64 0, .int .i64 0, .int .i64 0, .slice none 0 0]) (t := 41) ?hr ?_; (case hd => rfl); (case hg => rfl); (case hr => first | (go_simp; done) | (go_simp; rfl)); intro gb615 hg w70 hbox hb; replace HO_12 := Aside0.mk (Kd.R_below (Zz.r HO_12.out) hb); replace HO_604017 := Aside0.mk (Kd.R_below (Zz.r HO_604017.out) hb); replace HO613 := Aside0.mk (Kd.R_below (Zz.r HO613.out) hb); have BK615 := Aside0.mk (hbox); have GW615 := Aside0.mk (Zz.ge hg HB.out); have GE615 := Aside0.mk (Zz.ge hg HB.out); replace HB := Aside0.mk (below_step (Zz.i HB.out) hb); have NB559_615 := Aside0.mk (Zz.nl hg BK559.out); have NB615_559 := Aside0.mk (Zz.ng hg BK559.out); replace BK559 := Aside0.mk (Zz.bb BK559.out hb); have NB560_615 := Aside0.mk (Zz.nl hg BK560.out); have NB615_560 := Aside0.mk (Zz.ng hg BK560.out); replace BK560 := Aside0.mk (Zz.bb BK560.out hb); have NB603_615 := Aside0.mk (Zz.nl hg BK603.out); have NB615_603 := Aside0.mk (Zz.ng hg BK603.out); replace BK603 := Aside0.mk (Zz.bb BK603.out hb); clear hb hbox hg; have hnb71 := NB615_559.out; have hnc71 := NB559_615.out; have hnb72 := NB615_560.out; have hnc72 := NB560_615.out; have hnb73 := NB615_603.out; have hnc73 := NB603_615.out; have hcz74 := Zz.c5 BK615.out; have hfz74 := blk_frozen BK615.out; obtain ⟨Ao75, co75, eo75⟩ := Kd.R_slice HO613.out; subst eo75))
          (try simp only [Act.put, List.setIfInBounds_toArray, List.set_cons_zero, List.set_cons_succ])
          go_cut [96] (fun v96 wc => ∃ (kq : Nat) (x96_66 : Bool), v96 = .bool x96_66 ∧ Aside0 (headgateref18_DecodeAsk.j3 kq x12_2 t605 x96_66 0 0 0 0 0 0 0 0 0 0 0 0 false 0 0 0 0 t583 t584 t585 t586 t587 t588 t589 t590 t591 t592 t593 t594 t595 t596 t597 t598 t599 t600 t607 t608 t609 t610 t611 = some (r1, r2, r3, r4, r5, r6, r7, r8, r9, r10, r11, r12, r13, r14, r15, r16, r17, r18, r19)) ∧ Aside0 (kq ≤ kj35) ∧ Aside0 (Kd.R (Kd.int .i64) 3 wc w.heap.size (fun _ => True) (.slice Ao37 x12_2.length co37) x12_2) ∧ Aside0 (Kd.R k57 57 wc w.heap.size (fun k_ => some k_ ≠ ((.slice Ao75 t611.length co75) : Value).ownBlock) (.slice Ao59 t600.length co59) t600) ∧ Aside0 (Kd.R k57 57 wc w.heap.size (fun k_ => some k_ ≠ ((.slice Ao59 t600.length co59) : Value).ownBlock) (.slice Ao75 t611.length co75) t611) ∧ Aside0 (wc.heap[gb559]? = some (.cells #[.int .i64 0, .int .i64 0, .int .i64 0, .int .i64 0, .int .i64 0, .int .i64 0, .int .i64 0, .int .i64 0, .int .i64 0, .int .i64 0, .int .i64 0, .int .i64 0, .bool false, .int .i64 0, .int .i64 0, .int .i64 0, .int .i64 0, (.slice none 0 0)] 43 (0, 0))) ∧ Aside0 (wc.heap[gb560]? = some (.cells #[.int .i64 0, .int .i64 0, .int .i64 0, .int .i64 0, .int .i64 0, .int .i64 0, .int .i64 0, .int .i64 0, .int .i64 0, .int .i64 0, .int .i64 0, .int .i64 0, .bool false, .int .i64 0, .int .i64 0, .int .i64 0, .int .i64 0, (.slice none 0 0)] 43 (0, 0))) ∧ Aside0 (wc.heap[gb603]? = some (.cells #[.int .i64 t583, .int .i64 t584, .int .i64 t585, .int .i64 t586, .int .i64 t587, .int .i64 t588, .int .i64 t589, .int .i64 t590, .int .i64 t591, .int .i64 t592, .int .i64 t593, .int .i64 t594, .bool t595, .int .i64 t596, .int .i64 t597, .int .i64 t598, .int .i64 t599, (.slice Ao59 t600.length co59)] 43 (0, 0))) ∧ Aside0 (wc.heap[gb615]? = some (.cells #[.int .i64 t607, .int .i64 t608, .int .i64 t609, .int .i64 t610, (.slice Ao75 t611.length co75)] 41 (0, 0))) ∧ Aside0 (Below w.heap.size w wc))
          case first =>
           have H := HC67.out
           clear HC67
           by_cases c76 : t606 = 0
           ·rw [if_pos c76] at H
            obtain ⟨c76b0, c76b1⟩ := Zr.y c76
            clear c76
            (first | rw [c76b0] | rw [c76b9] | (simp only [i64_w, i32_w]; rw [c76b0]) | skip)
            have H' := Aside0.mk H
            clear H
            go_wp2
            go_meet
            case rel => exact ⟨_, ((t614 != 0)), Zz.q, H', ⟨by have := HJ6.out; have := HK2.out; have := HJ35.out; first | omega | exact Nat.le_refl _⟩, ⟨by (with_reducible repeat (first | apply Kd.R_alloc | apply Kd.R_drewN | apply Kd.R_drew)); exact Kd.R_mono (Zz.f5 (Kd.R_types HO_12.out BK615.out (by decide)) (fun _ hk => hk.2)) (fun _ hk => trivial)⟩, ⟨by (with_reducible repeat (first | apply Kd.R_alloc | apply Kd.R_drewN | apply Kd.R_drew)); exact Kd.R_mono (Zz.f5 (Kd.R_types HO_604017.out BK615.out (by decide)) (fun _ hk => hk.2)) (fun _ hk => hk.1.2)⟩, ⟨by (with_reducible repeat (first | apply Kd.R_alloc | apply Kd.R_drewN | apply Kd.R_drew)); exact Kd.R_mono (Zz.f5 (Kd.R_types HO613.out BK615.out (by decide)) (fun _ hk => hk.2)) (fun _ hk => hk.1.2)⟩, ⟨by exact Zz.q5 BK559.out NB559_615.out⟩, ⟨by exact Zz.q5 BK560.out NB560_615.out⟩, ⟨by exact Zz.q5 BK603.out NB603_615.out⟩, ⟨by (with_reducible repeat (first | refine blk_drewN ?_ _ | refine blk_drew ?_ | refine blk_alloc ?_ _)); exact Zz.u5_0_4 BK615.out⟩, ⟨Zz.i HB.out⟩⟩
           rw [if_neg c76] at H
           obtain ⟨c76b0, c76b1⟩ := Zr.n c76
           (first | rw [c76b0] | rw [c76b9] | (simp only [i64_w, i32_w]; rw [c76b0]) | skip)
           have H' := Aside0.mk H
           clear H
           go_wp2
           go_meet
           case rel => exact ⟨_, (true), Zz.q, H', ⟨by have := HJ6.out; have := HK2.out; have := HJ35.out; first | omega | exact Nat.le_refl _⟩, ⟨by (with_reducible repeat (first | apply Kd.R_alloc | apply Kd.R_drewN | apply Kd.R_drew)); exact Kd.R_mono (Zz.f5 (Kd.R_types HO_12.out BK615.out (by decide)) (fun _ hk => hk.2)) (fun _ hk => trivial)⟩, ⟨by (with_reducible repeat (first | apply Kd.R_alloc | apply Kd.R_drewN | apply Kd.R_drew)); exact Kd.R_mono (Zz.f5 (Kd.R_types HO_604017.out BK615.out (by decide)) (fun _ hk => hk.2)) (fun _ hk => hk.1.2)⟩, ⟨by (with_reducible repeat (first | apply Kd.R_alloc | apply Kd.R_drewN | apply Kd.R_drew)); exact Kd.R_mono (Zz.f5 (Kd.R_types HO613.out BK615.out (by decide)) (fun _ hk => hk.2)) (fun _ hk => hk.1.2)⟩, ⟨by exact Zz.q5 BK559.out NB559_615.out⟩, ⟨by exact Zz.q5 BK560.out NB560_615.out⟩, ⟨by exact Zz.q5 BK603.out NB603_615.out⟩, ⟨by (with_reducible repeat (first | refine blk_drewN ?_ _ | refine blk_drew ?_ | refine blk_alloc ?_ _)); exact Zz.u5_0_4 BK615.out⟩, ⟨Zz.i HB.out⟩⟩
          clear HC67
          (try clear c2);(try clear p2);(try clear c3);(try clear c5);(try clear p5);(try clear q5);(try clear hx5);(try clear qi5);(try clear c6);(try clear p6);(try clear c7);(try clear c24);(try clear c24b0);(try clear c25);(try clear c26);(try clear c27);(try clear c28);(try clear c33);(try clear c33b0);(try clear c33b1);(try clear c34);(try clear c34b0);(try clear c34b1);(try clear c50);(try clear c51);(try clear c52);(try clear p58);(try clear q58);(try clear hx58);(try clear qi58);(try clear c61);(try clear c62);(try clear c64);(try clear c71);(try clear c72);(try clear c73);(try clear c76);(try clear c76b0);(try clear c76b1);(try clear hcz63);(try clear hcz74);(try clear hfz63);(try clear hfz74);(try clear hx581_0);(try clear hx582_0);(try clear p581);(try clear p582);(try clear q581);(try clear q582)
          obtain ⟨kq, x96_66, rfl, HA, HJ66, HO_12, HO_604017, HO_616004, BK559, BK560, BK603, BK615, HB⟩ := hcut
          cases kq with
          | zero => exact absurd HA.out (by simp [headgateref18_DecodeAsk.j3])
          | succ kj66 =>
           have H := HA.out
           clear HA
           simp only [headgateref18_DecodeAsk.j3] at H
           by_cases c77 : x96_66 = true
           ·subst c77
            rw [if_pos rfl] at H
            simp only [Option.some.injEq, Prod.mk.injEq] at H
            obtain ⟨rfl, rfl, rfl, rfl, rfl, rfl, rfl, rfl, rfl, rfl, rfl, rfl, rfl, rfl, rfl, rfl, rfl, rfl, rfl⟩ := H
            have hnb78 := NB560_559.out
            have hnc78 := NB559_560.out
            have hnb79 := NB560_603.out
            have hnc79 := NB603_560.out
            have hnb80 := NB560_615.out
            have hnc80 := NB615_560.out
            have hcz81 := Zz.c18 BK560.out
            have hfz81 := blk_frozen BK560.out
            have hnb82 := NB559_603.out
            have hnc82 := NB603_559.out
            have hnb83 := NB559_615.out
            have hnc83 := NB615_559.out
            have hcz84 := Zz.c18 BK559.out
            have hfz84 := blk_frozen BK559.out
            go_wp2
            refine bodyPost_ret (results_ct rfl _ _ gb559 43 #[.int .i64 0, .int .i64 0, .int .i64 0, .int .i64 0, .int .i64 0, .int .i64 0, .int .i64 0, .int .i64 0, .int .i64 0, .int .i64 0, .int .i64 0, .int .i64 0, .bool false, .int .i64 0, .int .i64 0, .int .i64 0, .int .i64 0, .slice none 0 0] (0, 0) _ rfl (by (with_reducible repeat (first | refine blk_drewN ?_ _ | refine blk_drew ?_ | refine blk_alloc ?_ _)); exact Zz.u18_0_17 BK559.out) Try.underlying43 rfl (by kernel_rfl)) rfl ?_
            exact ⟨_, Zr.e, by first | exact Kd.R_nil _ _ _ _ _ | exact Kd.N_nil _ _ _ _ _ | exact Kd.V_nil _ _ _ _ _ | exact Kd.Q_nil _ _ _ _ _ | exact Kd.S_nil _ _ _ _ _, Zz.i HB.out⟩
           replace c77 := Bool.eq_false_iff.mpr c77
           subst c77
           rw [if_neg Bool.false_ne_true] at H
           have HC85 := Aside0.mk H
           clear H
           have hnb86 := NB615_559.out
           have hnc86 := NB559_615.out
           have hnb87 := NB615_560.out
           have hnc87 := NB560_615.out
           have hnb88 := NB615_603.out
           have hnc88 := NB603_615.out
           have hcz89 := Zz.c5 BK615.out
           have hfz89 := blk_frozen BK615.out
           have hnb90 := NB603_559.out
           have hnc90 := NB559_603.out
           have hnb91 := NB603_560.out
           have hnc91 := NB560_603.out
           have hcz92 := Zz.c18 BK603.out
           have hfz92 := blk_frozen BK603.out
           go_upto_region 22 with (fail)
           go_cut [120] (fun v120 wc => ∃ (kq : Nat) (x120_84 : Bool), v120 = .bool x120_84 ∧ Aside0 (headgateref18_DecodeAsk.j4 kq x120_84 0 0 0 0 0 0 0 0 0 0 0 0 false 0 0 0 0 t583 t584 t585 t586 t587 t588 t589 t590 t591 t592 t593 t594 t595 t607 t608 t609 t610 t611 = some (r1, r2, r3, r4, r5, r6, r7, r8, r9, r10, r11, r12, r13, r14, r15, r16, r17, r18, r19)) ∧ Aside0 (kq ≤ kj66) ∧ Aside0 (Kd.R k57 57 wc w.heap.size (fun _ => True) (.slice Ao75 t611.length co75) t611) ∧ Aside0 (Kd.R k57 57 wc w.heap.size (fun _ => True) (.slice Ao75 t611.length co75) t611) ∧ Aside0 (wc.heap[gb559]? = some (.cells #[.int .i64 0, .int .i64 0, .int .i64 0, .int .i64 0, .int .i64 0, .int .i64 0, .int .i64 0, .int .i64 0, .int .i64 0, .int .i64 0, .int .i64 0, .int .i64 0, .bool false, .int .i64 0, .int .i64 0, .int .i64 0, .int .i64 0, (.slice none 0 0)] 43 (0, 0))) ∧ Aside0 (wc.heap[gb560]? = some (.cells #[.int .i64 0, .int .i64 0, .int .i64 0, .int .i64 0, .int .i64 0, .int .i64 0, .int .i64 0, .int .i64 0, .int .i64 0, .int .i64 0, .int .i64 0, .int .i64 0, .bool false, .int .i64 0, .int .i64 0, .int .i64 0, .int .i64 0, (.slice none 0 0)] 43 (0, 0))) ∧ Aside0 (wc.heap[gb603]? = some (.cells #[.int .i64 t583, .int .i64 t584, .int .i64 t585, .int .i64 t586, .int .i64 t587, .int .i64 t588, .int .i64 t589, .int .i64 t590, .int .i64 t591, .int .i64 t592, .int .i64 t593, .int .i64 t594, .bool t595, .int .i64 t607, .int .i64 t608, .int .i64 t609, .int .i64 t610, (.slice Ao75 t611.length co75)] 43 (0, 0))) ∧ Aside0 (wc.heap[gb615]? = some (.cells #[.int .i64 t607, .int .i64 t608, .int .i64 t609, .int .i64 t610, (.slice Ao75 t611.length co75)] 41 (0, 0))) ∧ Aside0 (Below w.heap.size w wc))
           case first =>
            have H := HC85.out
            clear HC85
            by_cases c93 : (t605.size : Int) > 0
            ·rw [if_pos c93] at H
             have c93b0 : decide (0 < (t605.size : Int)) = true := decide_eq_true c93
             have c93b1 : decide (0 < t605.size) = true := decide_eq_true (by omega)
             clear c93
             (first | rw [c93b0] | rw [c93b9] | (simp only [i64_w, i32_w]; rw [c93b0]) | skip)
             have H' := Aside0.mk H
             clear H
             go_wp2
             go_meet
             case rel => exact ⟨_, (true), Zz.q, H', ⟨by have := HJ6.out; have := HK2.out; have := HJ35.out; have := HJ66.out; first | omega | exact Nat.le_refl _⟩, ⟨by (with_reducible repeat (first | apply Kd.R_alloc | apply Kd.R_drewN | apply Kd.R_drew)); exact Kd.R_mono (Zz.f5 (Kd.R_types HO_616004.out BK603.out (by decide)) (fun _ hk => hk.2)) (fun _ hk => trivial)⟩, ⟨by (with_reducible repeat (first | apply Kd.R_alloc | apply Kd.R_drewN | apply Kd.R_drew)); exact Kd.R_mono (Zz.f5 (Kd.R_types HO_616004.out BK603.out (by decide)) (fun _ hk => hk.2)) (fun _ hk => trivial)⟩, ⟨by exact Zz.q5 BK559.out NB559_603.out⟩, ⟨by exact Zz.q5 BK560.out NB560_603.out⟩, ⟨by (with_reducible repeat (first | refine blk_drewN ?_ _ | refine blk_drew ?_ | refine blk_alloc ?_ _)); exact Zz.u18_13_17 BK603.out⟩, ⟨by exact Zz.q5 BK615.out NB615_603.out⟩, ⟨Zz.i HB.out⟩⟩
            rw [if_neg c93] at H
            have c93b0 : decide (0 < (t605.size : Int)) = false := decide_eq_false c93
            have c93b1 : decide (0 < t605.size) = false := decide_eq_false (by omega)
            clear c93
            (first | rw [c93b0] | rw [c93b9] | (simp only [i64_w, i32_w]; rw [c93b0]) | skip)
            by_cases c94 : 10 < (x12_2.length : Int)
            ·rw [if_pos c94] at H
             have c94b0 : decide (10 < (x12_2.length : Int)) = true := decide_eq_true c94
             have c94b1 : decide (10 < x12_2.length) = true := decide_eq_true (by omega)
             clear c94
             by_cases c95 : (rd x12_2 10) < 0
             ·rw [if_pos c95] at H
              have c95b0 : decide ((rd x12_2 10) < 0) = true := decide_eq_true c95
              clear c95
              have H' := Aside0.mk H
              clear H
              have p616 : 0 ≤ (10 : Int) := (by omega)
              have q616 : 10 < (x12_2.length : Int) := of_decide_eq_true (by first | (with_reducible assumption) | assumption)
              obtain ⟨ad616, e616, hx616_0⟩ := Kd.at_int (Kd.R_reads' HO_12.out).2.2 10 p616 q616
              cases e616
              (try simp only [show (10 : Int).toNat = 10 from rfl, Nat.reduceMul, Nat.reduceEqDiff, Go.Addr.add, ↓reduceIte] at hx616_0)
              have qi616 : (10 < x12_2.length) = True := eq_true (by omega)
              (try rw [show ((10 : Int)).toNat = 10 from rfl] at hx616_0)
              have hn616_0 : ad616.block ≠ gb603 := Kd.own_blk (Kd.R_ne HO_12.out BK603.out (by decide))
              have hn616_1 : ad616.block ≠ gb603 := Kd.own_blk (Kd.R_ne HO_12.out BK603.out (by decide))
              have hn616_2 : ad616.block ≠ gb603 := Kd.own_blk (Kd.R_ne HO_12.out BK603.out (by decide))
              have hn616_3 : ad616.block ≠ gb603 := Kd.own_blk (Kd.R_ne HO_12.out BK603.out (by decide))
              have hn616_4 : ad616.block ≠ gb603 := Kd.own_blk (Kd.R_ne HO_12.out BK603.out (by decide))
              replace hx616_0 := (cell_far (p := ⟨gb603, 13, none⟩) (by first | (rw [add_block]; exact hn616_0) | (show (Addr.add _ _).block ≠ _; rw [add_block]; exact hn616_0) | exact hn616_0) (.int .i64 t607)).trans hx616_0
              replace hx616_0 := (cell_far (p := ⟨gb603, 14, none⟩) (by first | (rw [add_block]; exact hn616_1) | (show (Addr.add _ _).block ≠ _; rw [add_block]; exact hn616_1) | exact hn616_1) (.int .i64 t608)).trans hx616_0
              replace hx616_0 := (cell_far (p := ⟨gb603, 15, none⟩) (by first | (rw [add_block]; exact hn616_2) | (show (Addr.add _ _).block ≠ _; rw [add_block]; exact hn616_2) | exact hn616_2) (.int .i64 t609)).trans hx616_0
              replace hx616_0 := (cell_far (p := ⟨gb603, 16, none⟩) (by first | (rw [add_block]; exact hn616_3) | (show (Addr.add _ _).block ≠ _; rw [add_block]; exact hn616_3) | exact hn616_3) (.int .i64 t610)).trans hx616_0
              replace hx616_0 := (cell_far (p := ⟨gb603, 17, none⟩) (by first | (rw [add_block]; exact hn616_4) | (show (Addr.add _ _).block ≠ _; rw [add_block]; exact hn616_4) | exact hn616_4) (.slice Ao75 t611.length co75)).trans hx616_0
              clear hn616_0
              clear hn616_1
              clear hn616_2
              clear hn616_3
              clear hn616_4
              replace p616 := eq_true p616
              replace q616 := eq_true q616
              go_wp2
              go_meet
              case rel => exact ⟨_, (true), Zz.q, H', ⟨by have := HJ6.out; have := HK2.out; have := HJ35.out; have := HJ66.out; first | omega | exact Nat.le_refl _⟩, ⟨by (with_reducible repeat (first | apply Kd.R_alloc | apply Kd.R_drewN | apply Kd.R_drew)); exact Kd.R_mono (Zz.f5 (Kd.R_types HO_616004.out BK603.out (by decide)) (fun _ hk => hk.2)) (fun _ hk => trivial)⟩, ⟨by (with_reducible repeat (first | apply Kd.R_alloc | apply Kd.R_drewN | apply Kd.R_drew)); exact Kd.R_mono (Zz.f5 (Kd.R_types HO_616004.out BK603.out (by decide)) (fun _ hk => hk.2)) (fun _ hk => trivial)⟩, ⟨by exact Zz.q5 BK559.out NB559_603.out⟩, ⟨by exact Zz.q5 BK560.out NB560_603.out⟩, ⟨by (with_reducible repeat (first | refine blk_drewN ?_ _ | refine blk_drew ?_ | refine blk_alloc ?_ _)); exact Zz.u18_13_17 BK603.out⟩, ⟨by exact Zz.q5 BK615.out NB615_603.out⟩, ⟨Zz.i HB.out⟩⟩
             rw [if_neg c95] at H
             have c95b0 : decide ((rd x12_2 10) < 0) = false := decide_eq_false c95
             clear c95
             by_cases c96 : (rd x12_2 10) > 1
             ·rw [if_pos c96] at H
              have c96b0 : decide (1 < (rd x12_2 10)) = true := decide_eq_true c96
              clear c96
              have H' := Aside0.mk H
              clear H
              have p616 : 0 ≤ (10 : Int) := (by omega)
              have q616 : 10 < (x12_2.length : Int) := of_decide_eq_true (by first | (with_reducible assumption) | assumption)
              obtain ⟨ad616, e616, hx616_0⟩ := Kd.at_int (Kd.R_reads' HO_12.out).2.2 10 p616 q616
              cases e616
              (try simp only [show (10 : Int).toNat = 10 from rfl, Nat.reduceMul, Nat.reduceEqDiff, Go.Addr.add, ↓reduceIte] at hx616_0)
              have qi616 : (10 < x12_2.length) = True := eq_true (by omega)
              (try rw [show ((10 : Int)).toNat = 10 from rfl] at hx616_0)
              have hn616_0 : ad616.block ≠ gb603 := Kd.own_blk (Kd.R_ne HO_12.out BK603.out (by decide))
              have hn616_1 : ad616.block ≠ gb603 := Kd.own_blk (Kd.R_ne HO_12.out BK603.out (by decide))
              have hn616_2 : ad616.block ≠ gb603 := Kd.own_blk (Kd.R_ne HO_12.out BK603.out (by decide))
              have hn616_3 : ad616.block ≠ gb603 := Kd.own_blk (Kd.R_ne HO_12.out BK603.out (by decide))
              have hn616_4 : ad616.block ≠ gb603 := Kd.own_blk (Kd.R_ne HO_12.out BK603.out (by decide))
              replace hx616_0 := (cell_far (p := ⟨gb603, 13, none⟩) (by first | (rw [add_block]; exact hn616_0) | (show (Addr.add _ _).block ≠ _; rw [add_block]; exact hn616_0) | exact hn616_0) (.int .i64 t607)).trans hx616_0
              replace hx616_0 := (cell_far (p := ⟨gb603, 14, none⟩) (by first | (rw [add_block]; exact hn616_1) | (show (Addr.add _ _).block ≠ _; rw [add_block]; exact hn616_1) | exact hn616_1) (.int .i64 t608)).trans hx616_0
              replace hx616_0 := (cell_far (p := ⟨gb603, 15, none⟩) (by first | (rw [add_block]; exact hn616_2) | (show (Addr.add _ _).block ≠ _; rw [add_block]; exact hn616_2) | exact hn616_2) (.int .i64 t609)).trans hx616_0
              replace hx616_0 := (cell_far (p := ⟨gb603, 16, none⟩) (by first | (rw [add_block]; exact hn616_3) | (show (Addr.add _ _).block ≠ _; rw [add_block]; exact hn616_3) | exact hn616_3) (.int .i64 t610)).trans hx616_0
              replace hx616_0 := (cell_far (p := ⟨gb603, 17, none⟩) (by first | (rw [add_block]; exact hn616_4) | (show (Addr.add _ _).block ≠ _; rw [add_block]; exact hn616_4) | exact hn616_4) (.slice Ao75 t611.length co75)).trans hx616_0
              clear hn616_0
              clear hn616_1
              clear hn616_2
              clear hn616_3
              clear hn616_4
              replace p616 := eq_true p616
              replace q616 := eq_true q616
              have p617 : 0 ≤ (10 : Int) := (by omega)
              have q617 : 10 < (x12_2.length : Int) := of_decide_eq_true (by first | (with_reducible assumption) | assumption)
              obtain ⟨ad617, e617, hx617_0⟩ := Kd.at_int (Kd.R_reads' HO_12.out).2.2 10 p617 q617
              obtain rfl : ad616 = ad617 := (by injection e617)
              (try simp only [show (10 : Int).toNat = 10 from rfl, Nat.reduceMul, Nat.reduceEqDiff, Go.Addr.add, ↓reduceIte] at hx617_0)
              have qi617 : (10 < x12_2.length) = True := eq_true (by omega)
              (try rw [show ((10 : Int)).toNat = 10 from rfl] at hx617_0)
              have hn617_0 : ad616.block ≠ gb603 := Kd.own_blk (Kd.R_ne HO_12.out BK603.out (by decide))
              have hn617_1 : ad616.block ≠ gb603 := Kd.own_blk (Kd.R_ne HO_12.out BK603.out (by decide))
              have hn617_2 : ad616.block ≠ gb603 := Kd.own_blk (Kd.R_ne HO_12.out BK603.out (by decide))
              have hn617_3 : ad616.block ≠ gb603 := Kd.own_blk (Kd.R_ne HO_12.out BK603.out (by decide))
              have hn617_4 : ad616.block ≠ gb603 := Kd.own_blk (Kd.R_ne HO_12.out BK603.out (by decide))
              replace hx617_0 := (cell_far (p := ⟨gb603, 13, none⟩) (by first | (rw [add_block]; exact hn617_0) | (show (Addr.add _ _).block ≠ _; rw [add_block]; exact hn617_0) | exact hn617_0) (.int .i64 t607)).trans hx617_0
              replace hx617_0 := (cell_far (p := ⟨gb603, 14, none⟩) (by first | (rw [add_block]; exact hn617_1) | (show (Addr.add _ _).block ≠ _; rw [add_block]; exact hn617_1) | exact hn617_1) (.int .i64 t608)).trans hx617_0
              replace hx617_0 := (cell_far (p := ⟨gb603, 15, none⟩) (by first | (rw [add_block]; exact hn617_2) | (show (Addr.add _ _).block ≠ _; rw [add_block]; exact hn617_2) | exact hn617_2) (.int .i64 t609)).trans hx617_0
              replace hx617_0 := (cell_far (p := ⟨gb603, 16, none⟩) (by first | (rw [add_block]; exact hn617_3) | (show (Addr.add _ _).block ≠ _; rw [add_block]; exact hn617_3) | exact hn617_3) (.int .i64 t610)).trans hx617_0
              replace hx617_0 := (cell_far (p := ⟨gb603, 17, none⟩) (by first | (rw [add_block]; exact hn617_4) | (show (Addr.add _ _).block ≠ _; rw [add_block]; exact hn617_4) | exact hn617_4) (.slice Ao75 t611.length co75)).trans hx617_0
              clear hn617_0
              clear hn617_1
              clear hn617_2
              clear hn617_3
              clear hn617_4
              replace p617 := eq_true p617
              replace q617 := eq_true q617
              go_wp2
              go_meet
              case rel => exact ⟨_, (true), Zz.q, H', ⟨by have := HJ6.out; have := HK2.out; have := HJ35.out; have := HJ66.out; first | omega | exact Nat.le_refl _⟩, ⟨by (with_reducible repeat (first | apply Kd.R_alloc | apply Kd.R_drewN | apply Kd.R_drew)); exact Kd.R_mono (Zz.f5 (Kd.R_types HO_616004.out BK603.out (by decide)) (fun _ hk => hk.2)) (fun _ hk => trivial)⟩, ⟨by (with_reducible repeat (first | apply Kd.R_alloc | apply Kd.R_drewN | apply Kd.R_drew)); exact Kd.R_mono (Zz.f5 (Kd.R_types HO_616004.out BK603.out (by decide)) (fun _ hk => hk.2)) (fun _ hk => trivial)⟩, ⟨by exact Zz.q5 BK559.out NB559_603.out⟩, ⟨by exact Zz.q5 BK560.out NB560_603.out⟩, ⟨by (with_reducible repeat (first | refine blk_drewN ?_ _ | refine blk_drew ?_ | refine blk_alloc ?_ _)); exact Zz.u18_13_17 BK603.out⟩, ⟨by exact Zz.q5 BK615.out NB615_603.out⟩, ⟨Zz.i HB.out⟩⟩
             rw [if_neg c96] at H
             have c96b0 : decide (1 < (rd x12_2 10)) = false := decide_eq_false c96
             clear c96
             replace H := Option.bind_eq_some_iff.mp H
             obtain ⟨t618, A970, H⟩ := H
             try dsimp only at H
             have A97 := Aside0.mk A970
             clear A970
             have H' := Aside0.mk H
             clear H
             have p616 : 0 ≤ (10 : Int) := (by omega)
             have q616 : 10 < (x12_2.length : Int) := of_decide_eq_true (by first | (with_reducible assumption) | assumption)
             obtain ⟨ad616, e616, hx616_0⟩ := Kd.at_int (Kd.R_reads' HO_12.out).2.2 10 p616 q616
             cases e616
             (try simp only [show (10 : Int).toNat = 10 from rfl, Nat.reduceMul, Nat.reduceEqDiff, Go.Addr.add, ↓reduceIte] at hx616_0)
             have qi616 : (10 < x12_2.length) = True := eq_true (by omega)
             (try rw [show ((10 : Int)).toNat = 10 from rfl] at hx616_0)
             have hn616_0 : ad616.block ≠ gb603 := Kd.own_blk (Kd.R_ne HO_12.out BK603.out (by decide))
             have hn616_1 : ad616.block ≠ gb603 := Kd.own_blk (Kd.R_ne HO_12.out BK603.out (by decide))
             have hn616_2 : ad616.block ≠ gb603 := Kd.own_blk (Kd.R_ne HO_12.out BK603.out (by decide))
             have hn616_3 : ad616.block ≠ gb603 := Kd.own_blk (Kd.R_ne HO_12.out BK603.out (by decide))
             have hn616_4 : ad616.block ≠ gb603 := Kd.own_blk (Kd.R_ne HO_12.out BK603.out (by decide))
             replace hx616_0 := (cell_far (p := ⟨gb603, 13, none⟩) (by first | (rw [add_block]; exact hn616_0) | (show (Addr.add _ _).block ≠ _; rw [add_block]; exact hn616_0) | exact hn616_0) (.int .i64 t607)).trans hx616_0
             replace hx616_0 := (cell_far (p := ⟨gb603, 14, none⟩) (by first | (rw [add_block]; exact hn616_1) | (show (Addr.add _ _).block ≠ _; rw [add_block]; exact hn616_1) | exact hn616_1) (.int .i64 t608)).trans hx616_0
             replace hx616_0 := (cell_far (p := ⟨gb603, 15, none⟩) (by first | (rw [add_block]; exact hn616_2) | (show (Addr.add _ _).block ≠ _; rw [add_block]; exact hn616_2) | exact hn616_2) (.int .i64 t609)).trans hx616_0
             replace hx616_0 := (cell_far (p := ⟨gb603, 16, none⟩) (by first | (rw [add_block]; exact hn616_3) | (show (Addr.add _ _).block ≠ _; rw [add_block]; exact hn616_3) | exact hn616_3) (.int .i64 t610)).trans hx616_0
             replace hx616_0 := (cell_far (p := ⟨gb603, 17, none⟩) (by first | (rw [add_block]; exact hn616_4) | (show (Addr.add _ _).block ≠ _; rw [add_block]; exact hn616_4) | exact hn616_4) (.slice Ao75 t611.length co75)).trans hx616_0
             clear hn616_0
             clear hn616_1
             clear hn616_2
             clear hn616_3
             clear hn616_4
             replace p616 := eq_true p616
             replace q616 := eq_true q616
             have p617 : 0 ≤ (10 : Int) := (by omega)
             have q617 : 10 < (x12_2.length : Int) := of_decide_eq_true (by first | (with_reducible assumption) | assumption)
             obtain ⟨ad617, e617, hx617_0⟩ := Kd.at_int (Kd.R_reads' HO_12.out).2.2 10 p617 q617
             obtain rfl : ad616 = ad617 := (by injection e617)
             (try simp only [show (10 : Int).toNat = 10 from rfl, Nat.reduceMul, Nat.reduceEqDiff, Go.Addr.add, ↓reduceIte] at hx617_0)
             have qi617 : (10 < x12_2.length) = True := eq_true (by omega)
             (try rw [show ((10 : Int)).toNat = 10 from rfl] at hx617_0)
             have hn617_0 : ad616.block ≠ gb603 := Kd.own_blk (Kd.R_ne HO_12.out BK603.out (by decide))
             have hn617_1 : ad616.block ≠ gb603 := Kd.own_blk (Kd.R_ne HO_12.out BK603.out (by decide))
             have hn617_2 : ad616.block ≠ gb603 := Kd.own_blk (Kd.R_ne HO_12.out BK603.out (by decide))
             have hn617_3 : ad616.block ≠ gb603 := Kd.own_blk (Kd.R_ne HO_12.out BK603.out (by decide))
             have hn617_4 : ad616.block ≠ gb603 := Kd.own_blk (Kd.R_ne HO_12.out BK603.out (by decide))
             replace hx617_0 := (cell_far (p := ⟨gb603, 13, none⟩) (by first | (rw [add_block]; exact hn617_0) | (show (Addr.add _ _).block ≠ _; rw [add_block]; exact hn617_0) | exact hn617_0) (.int .i64 t607)).trans hx617_0
             replace hx617_0 := (cell_far (p := ⟨gb603, 14, none⟩) (by first | (rw [add_block]; exact hn617_1) | (show (Addr.add _ _).block ≠ _; rw [add_block]; exact hn617_1) | exact hn617_1) (.int .i64 t608)).trans hx617_0
             replace hx617_0 := (cell_far (p := ⟨gb603, 15, none⟩) (by first | (rw [add_block]; exact hn617_2) | (show (Addr.add _ _).block ≠ _; rw [add_block]; exact hn617_2) | exact hn617_2) (.int .i64 t609)).trans hx617_0
             replace hx617_0 := (cell_far (p := ⟨gb603, 16, none⟩) (by first | (rw [add_block]; exact hn617_3) | (show (Addr.add _ _).block ≠ _; rw [add_block]; exact hn617_3) | exact hn617_3) (.int .i64 t610)).trans hx617_0
             replace hx617_0 := (cell_far (p := ⟨gb603, 17, none⟩) (by first | (rw [add_block]; exact hn617_4) | (show (Addr.add _ _).block ≠ _; rw [add_block]; exact hn617_4) | exact hn617_4) (.slice Ao75 t611.length co75)).trans hx617_0
             clear hn617_0
             clear hn617_1
             clear hn617_2
             clear hn617_3
             clear hn617_4
             replace p617 := eq_true p617
             replace q617 := eq_true q617
             have hnb98 := NB603_559.out
             have hnc98 := NB559_603.out
             have hnb99 := NB603_560.out
             have hnc99 := NB560_603.out
             have hnb100 := NB603_615.out
             have hnc100 := NB615_603.out
             have hcz101 := Zz.c18 BK603.out
             have hfz101 := blk_frozen BK603.out
             have hld := Kp.LDAsk_blk (Kp.put5 BK603.out (.int .i64 t607) (.int .i64 t608) (.int .i64 t609) (.int .i64 t610) (.slice Ao75 t611.length co75))
             go_wp2_with (first | (go_at_call 43; (with_reducible refine (headgateref18_MayAsk.calls kj66 t583 t584 t585 t586 t587 t588 t589 t590 t591 t592 t593 t594 t595 t607 t608 t609 t610 _ _ t611 t618 _ ?side1 ?side2 A97.out).mono ?_); (case side1 => refine (Kd.R_reads' (e := 57) (base := w.heap.size) (ok := fun k_ => some k_ ≠ (.slice Ao59 t600.length co59 : Value).ownBlock) (n := t611.length) (c := co75) ?_).2.2; exact (by (with_reducible repeat (first | apply Kd.R_alloc | apply Kd.R_drewN | apply Kd.R_drew)); exact (Kd.R_mono (Zz.f5 (Kd.R_types HO_616004.out BK603.out (by decide)) (fun _ hk => hk.2)) (fun _ h_ => h_.1)))); (case side2 => exact (Kd.R_reads' HO_616004.out).2.1); rintro e w102 ⟨rfl, hb⟩; have n0_ := Aside0.mk (Kd.R_below (by (with_reducible repeat (first | apply Kd.R_alloc | apply Kd.R_drewN | apply Kd.R_drew)); exact (Kd.R_mono (Zz.f5 (Kd.R_types HO_12.out BK603.out (by decide)) (fun _ hk => hk.2)) (fun _ h_ => h_.1))) hb); have n1_ := Aside0.mk (Kd.R_below (by (with_reducible repeat (first | apply Kd.R_alloc | apply Kd.R_drewN | apply Kd.R_drew)); exact (Kd.R_mono (Zz.f5 (Kd.R_types HO_604017.out BK603.out (by decide)) (fun _ hk => hk.2)) (fun _ h_ => h_.1))) hb); have n2_ := Aside0.mk (Kd.R_below (by (with_reducible repeat (first | apply Kd.R_alloc | apply Kd.R_drewN | apply Kd.R_drew)); exact (Kd.R_mono (Zz.f5 (Kd.R_types HO_616004.out BK603.out (by decide)) (fun _ hk => hk.2)) (fun _ h_ => h_.1))) hb); have n3_ := Aside0.mk (blk_below (g := gb559) (o := .cells #[.int .i64 0, .int .i64 0, .int .i64 0, .int .i64 0, .int .i64 0, .int .i64 0, .int .i64 0, .int .i64 0, .int .i64 0, .int .i64 0, .int .i64 0, .int .i64 0, .bool false, .int .i64 0, .int .i64 0, .int .i64 0, .int .i64 0, .slice none 0 0] 43 (0, 0)) (by exact Zz.q5 BK559.out NB559_603.out) hb); have n4_ := Aside0.mk (blk_below (g := gb560) (o := .cells #[.int .i64 0, .int .i64 0, .int .i64 0, .int .i64 0, .int .i64 0, .int .i64 0, .int .i64 0, .int .i64 0, .int .i64 0, .int .i64 0, .int .i64 0, .int .i64 0, .bool false, .int .i64 0, .int .i64 0, .int .i64 0, .int .i64 0, .slice none 0 0] 43 (0, 0)) (by exact Zz.q5 BK560.out NB560_603.out) hb); have n5_ := Aside0.mk (blk_below (g := gb603) (o := .cells #[.int .i64 t583, .int .i64 t584, .int .i64 t585, .int .i64 t586, .int .i64 t587, .int .i64 t588, .int .i64 t589, .int .i64 t590, .int .i64 t591, .int .i64 t592, .int .i64 t593, .int .i64 t594, .bool t595, .int .i64 t607, .int .i64 t608, .int .i64 t609, .int .i64 t610, .slice Ao75 t611.length co75] 43 (0, 0)) (by (with_reducible repeat (first | refine blk_drewN ?_ _ | refine blk_drew ?_ | refine blk_alloc ?_ _)); exact Zz.u18_13_17 BK603.out) hb); have n6_ := Aside0.mk (blk_below (g := gb615) (o := .cells #[.int .i64 t607, .int .i64 t608, .int .i64 t609, .int .i64 t610, .slice Ao75 t611.length co75] 41 (0, 0)) (by exact Zz.q5 BK615.out NB615_603.out) hb); have n7_ := Aside0.mk (below_step (Zz.i HB.out) hb); clear HO_12; clear HO_604017; clear HO_616004; clear BK559; clear BK560; clear BK603; clear BK615; clear HB; have HO_12 := n0_; have HO_604017 := n1_; have HO_616004 := n2_; have BK559 := n3_; have BK560 := n4_; have BK603 := n5_; have BK615 := n6_; have HB := n7_; clear n0_ n1_ n2_ n3_ n4_ n5_ n6_ n7_; (try clear hb); (try clear hk)))
             go_meet
             case rel => exact ⟨_, (!t618), Zz.q, H', ⟨by have := HJ6.out; have := HK2.out; have := HJ35.out; have := HJ66.out; first | omega | exact Nat.le_refl _⟩, ⟨Zz.rt HO_616004.out⟩, ⟨Zz.rt HO_616004.out⟩, ⟨Zz.p BK559.out⟩, ⟨Zz.p BK560.out⟩, ⟨Zz.p BK603.out⟩, ⟨Zz.p BK615.out⟩, ⟨Zz.i HB.out⟩⟩
            rw [if_neg c94] at H
            exact absurd H (by simp)
           clear HC85
           (try clear c1);(try clear c2);(try clear p2);(try clear c3);(try clear c5);(try clear p5);(try clear q5);(try clear hx5);(try clear qi5);(try clear c6);(try clear p6);(try clear q6);(try clear hx6);(try clear qi6);(try clear c7);(try clear c8);(try clear c9);(try clear c10);(try clear c24);(try clear c24b0);(try clear c25);(try clear c26);(try clear c27);(try clear c28);(try clear c33);(try clear c33b0);(try clear c33b1);(try clear c34);(try clear c34b0);(try clear c34b1);(try clear c50);(try clear c51);(try clear c52);(try clear p58);(try clear q58);(try clear hx58);(try clear qi58);(try clear c61);(try clear p61);(try clear q61);(try clear hx61);(try clear qi61);(try clear c62);(try clear c64);(try clear c71);(try clear c72);(try clear c73);(try clear c76);(try clear c76b0);(try clear c76b1);(try clear c77);(try clear c78);(try clear c79);(try clear c80);(try clear c82);(try clear c83);(try clear c86);(try clear c87);(try clear c88);(try clear c90);(try clear c91);(try clear c93);(try clear c93b0);(try clear c93b1);(try clear c94);(try clear c94b0);(try clear c94b1);(try clear c95);(try clear c95b0);(try clear c96);(try clear c96b0);(try clear c98);(try clear c99);(try clear c100);(try clear hcz101);(try clear hcz63);(try clear hcz74);(try clear hcz81);(try clear hcz84);(try clear hcz89);(try clear hcz92);(try clear hfz101);(try clear hfz63);(try clear hfz74);(try clear hfz81);(try clear hfz84);(try clear hfz89);(try clear hfz92);(try clear hx581_0);(try clear hx582_0);(try clear hx616_0);(try clear hx617_0);(try clear p581);(try clear p582);(try clear p616);(try clear p617);(try clear q581);(try clear q582);(try clear q616);(try clear q617)
           obtain ⟨kq, x120_84, rfl, HA, HJ84, HO_604017, HO_616004, BK559, BK560, BK603, BK615, HB⟩ := hcut
           cases kq with
           | zero => exact absurd HA.out (by simp [headgateref18_DecodeAsk.j4])
           | succ kj84 =>
            have H := HA.out
            clear HA
            simp only [headgateref18_DecodeAsk.j4] at H
            by_cases c103 : x120_84 = true
            ·subst c103
             rw [if_pos rfl] at H
             simp only [Option.some.injEq, Prod.mk.injEq] at H
             obtain ⟨rfl, rfl, rfl, rfl, rfl, rfl, rfl, rfl, rfl, rfl, rfl, rfl, rfl, rfl, rfl, rfl, rfl, rfl, rfl⟩ := H
             have hnb104 := NB560_559.out
             have hnc104 := NB559_560.out
             have hnb105 := NB560_603.out
             have hnc105 := NB603_560.out
             have hnb106 := NB560_615.out
             have hnc106 := NB615_560.out
             have hcz107 := Zz.c18 BK560.out
             have hfz107 := blk_frozen BK560.out
             have hnb108 := NB559_603.out
             have hnc108 := NB603_559.out
             have hnb109 := NB559_615.out
             have hnc109 := NB615_559.out
             have hcz110 := Zz.c18 BK559.out
             have hfz110 := blk_frozen BK559.out
             go_wp2
             refine bodyPost_ret (results_ct rfl _ _ gb559 43 #[.int .i64 0, .int .i64 0, .int .i64 0, .int .i64 0, .int .i64 0, .int .i64 0, .int .i64 0, .int .i64 0, .int .i64 0, .int .i64 0, .int .i64 0, .int .i64 0, .bool false, .int .i64 0, .int .i64 0, .int .i64 0, .int .i64 0, .slice none 0 0] (0, 0) _ rfl (by (with_reducible repeat (first | refine blk_drewN ?_ _ | refine blk_drew ?_ | refine blk_alloc ?_ _)); exact Zz.u18_0_17 BK559.out) Try.underlying43 rfl (by kernel_rfl)) rfl ?_
             exact ⟨_, Zr.e, by first | exact Kd.R_nil _ _ _ _ _ | exact Kd.N_nil _ _ _ _ _ | exact Kd.V_nil _ _ _ _ _ | exact Kd.Q_nil _ _ _ _ _ | exact Kd.S_nil _ _ _ _ _, Zz.i HB.out⟩
            replace c103 := Bool.eq_false_iff.mpr c103
            subst c103
            rw [if_neg Bool.false_ne_true] at H
            simp only [Option.some.injEq, Prod.mk.injEq] at H
            obtain ⟨rfl, rfl, rfl, rfl, rfl, rfl, rfl, rfl, rfl, rfl, rfl, rfl, rfl, rfl, rfl, rfl, rfl, rfl, rfl⟩ := H
            have hnb111 := NB603_559.out
            have hnc111 := NB559_603.out
            have hnb112 := NB603_560.out
            have hnc112 := NB560_603.out
            have hnb113 := NB603_615.out
            have hnc113 := NB615_603.out
            have hcz114 := Zz.c18 BK603.out
            have hfz114 := blk_frozen BK603.out
            have hnb115 := NB559_560.out
            have hnc115 := NB560_559.out
            have hnb116 := NB559_615.out
            have hnc116 := NB615_559.out
            have hcz117 := Zz.c18 BK559.out
            have hfz117 := blk_frozen BK559.out
            go_wp2
            refine bodyPost_ret (results_ct rfl _ _ gb559 43 #[.int .i64 t583, .int .i64 t584, .int .i64 t585, .int .i64 t586, .int .i64 t587, .int .i64 t588, .int .i64 t589, .int .i64 t590, .int .i64 t591, .int .i64 t592, .int .i64 t593, .int .i64 t594, .bool t595, .int .i64 t607, .int .i64 t608, .int .i64 t609, .int .i64 t610, .slice Ao75 t611.length co75] (0, 0) _ rfl (by (with_reducible repeat (first | refine blk_drewN ?_ _ | refine blk_drew ?_ | refine blk_alloc ?_ _)); exact Zz.u18_0_17 BK559.out) Try.underlying43 rfl (by kernel_rfl)) rfl ?_
            exact ⟨_, Zr.e, by (with_reducible repeat (first | apply Kd.R_alloc | apply Kd.R_drewN | apply Kd.R_drew)); exact Kd.R_mono (Zz.f18 (Kd.R_types HO_604017.out BK559.out (by decide)) (fun _ hk => hk.2)) (fun _ hk => trivial), Zz.i HB.out⟩
         replace c64 := Bool.eq_false_iff.mpr c64
         subst c64
         rw [if_neg Bool.false_ne_true] at H
         have HC118 := Aside0.mk H
         clear H
         go_upto_region 22 with (fail)
         go_cut [120] (fun v120 wc => ∃ (kq : Nat) (x120_117 : Bool), v120 = .bool x120_117 ∧ Aside0 (headgateref18_DecodeAsk.j5 kq x120_117 0 0 0 0 0 0 0 0 0 0 0 0 false 0 0 0 0 t583 t584 t585 t586 t587 t588 t589 t590 t591 t592 t593 t594 t595 t596 t597 t598 t599 t600 = some (r1, r2, r3, r4, r5, r6, r7, r8, r9, r10, r11, r12, r13, r14, r15, r16, r17, r18, r19)) ∧ Aside0 (kq ≤ kj35) ∧ Aside0 (Kd.R k57 57 wc w.heap.size (fun _ => True) (.slice Ao59 t600.length co59) t600) ∧ Aside0 (wc.heap[gb559]? = some (.cells #[.int .i64 0, .int .i64 0, .int .i64 0, .int .i64 0, .int .i64 0, .int .i64 0, .int .i64 0, .int .i64 0, .int .i64 0, .int .i64 0, .int .i64 0, .int .i64 0, .bool false, .int .i64 0, .int .i64 0, .int .i64 0, .int .i64 0, (.slice none 0 0)] 43 (0, 0))) ∧ Aside0 (wc.heap[gb560]? = some (.cells #[.int .i64 0, .int .i64 0, .int .i64 0, .int .i64 0, .int .i64 0, .int .i64 0, .int .i64 0, .int .i64 0, .int .i64 0, .int .i64 0, .int .i64 0, .int .i64 0, .bool false, .int .i64 0, .int .i64 0, .int .i64 0, .int .i64 0, (.slice none 0 0)] 43 (0, 0))) ∧ Aside0 (wc.heap[gb603]? = some (.cells #[.int .i64 t583, .int .i64 t584, .int .i64 t585, .int .i64 t586, .int .i64 t587, .int .i64 t588, .int .i64 t589, .int .i64 t590, .int .i64 t591, .int .i64 t592, .int .i64 t593, .int .i64 t594, .bool t595, .int .i64 t596, .int .i64 t597, .int .i64 t598, .int .i64 t599, (.slice Ao59 t600.length co59)] 43 (0, 0))) ∧ Aside0 (Below w.heap.size w wc))
         case first =>
          have H := HC118.out
          clear HC118
          by_cases c119 : (t571.size : Int) > 0
          ·rw [if_pos c119] at H
           have c119b0 : decide (0 < (t571.size : Int)) = true := decide_eq_true c119
           have c119b1 : decide (0 < t571.size) = true := decide_eq_true (by omega)
           clear c119
           (first | rw [c119b0] | rw [c119b9] | (simp only [i64_w, i32_w]; rw [c119b0]) | skip)
           have H' := Aside0.mk H
           clear H
           go_wp2
           go_meet
           case rel => exact ⟨_, (true), Zz.q, H', ⟨by have := HJ6.out; have := HK2.out; have := HJ35.out; first | omega | exact Nat.le_refl _⟩, ⟨Zz.r HO_604017.out⟩, ⟨Zz.p BK559.out⟩, ⟨Zz.p BK560.out⟩, ⟨Zz.p BK603.out⟩, ⟨Zz.i HB.out⟩⟩
          rw [if_neg c119] at H
          have c119b0 : decide (0 < (t571.size : Int)) = false := decide_eq_false c119
          have c119b1 : decide (0 < t571.size) = false := decide_eq_false (by omega)
          clear c119
          (first | rw [c119b0] | rw [c119b9] | (simp only [i64_w, i32_w]; rw [c119b0]) | skip)
          by_cases c120 : 10 < (x12_2.length : Int)
          ·rw [if_pos c120] at H
           have c120b0 : decide (10 < (x12_2.length : Int)) = true := decide_eq_true c120
           have c120b1 : decide (10 < x12_2.length) = true := decide_eq_true (by omega)
           clear c120
           by_cases c121 : (rd x12_2 10) < 0
           ·rw [if_pos c121] at H
            have c121b0 : decide ((rd x12_2 10) < 0) = true := decide_eq_true c121
            clear c121
            have H' := Aside0.mk H
            clear H
            have p619 : 0 ≤ (10 : Int) := (by omega)
            have q619 : 10 < (x12_2.length : Int) := of_decide_eq_true (by first | (with_reducible assumption) | assumption)
            obtain ⟨ad619, e619, hx619_0⟩ := Kd.at_int (Kd.R_reads' HO_12.out).2.2 10 p619 q619
            cases e619
            (try simp only [show (10 : Int).toNat = 10 from rfl, Nat.reduceMul, Nat.reduceEqDiff, Go.Addr.add, ↓reduceIte] at hx619_0)
            have qi619 : (10 < x12_2.length) = True := eq_true (by omega)
            (try rw [show ((10 : Int)).toNat = 10 from rfl] at hx619_0)
            replace p619 := eq_true p619
            replace q619 := eq_true q619
            go_wp2
            go_meet
            case rel => exact ⟨_, (true), Zz.q, H', ⟨by have := HJ6.out; have := HK2.out; have := HJ35.out; first | omega | exact Nat.le_refl _⟩, ⟨Zz.r HO_604017.out⟩, ⟨Zz.p BK559.out⟩, ⟨Zz.p BK560.out⟩, ⟨Zz.p BK603.out⟩, ⟨Zz.i HB.out⟩⟩
           rw [if_neg c121] at H
           have c121b0 : decide ((rd x12_2 10) < 0) = false := decide_eq_false c121
           clear c121
           by_cases c122 : (rd x12_2 10) > 1
           ·rw [if_pos c122] at H
            have c122b0 : decide (1 < (rd x12_2 10)) = true := decide_eq_true c122
            clear c122
            have H' := Aside0.mk H
            clear H
            have p619 : 0 ≤ (10 : Int) := (by omega)
            have q619 : 10 < (x12_2.length : Int) := of_decide_eq_true (by first | (with_reducible assumption) | assumption)
            obtain ⟨ad619, e619, hx619_0⟩ := Kd.at_int (Kd.R_reads' HO_12.out).2.2 10 p619 q619
            cases e619
            (try simp only [show (10 : Int).toNat = 10 from rfl, Nat.reduceMul, Nat.reduceEqDiff, Go.Addr.add, ↓reduceIte] at hx619_0)
            have qi619 : (10 < x12_2.length) = True := eq_true (by omega)
            (try rw [show ((10 : Int)).toNat = 10 from rfl] at hx619_0)
            replace p619 := eq_true p619
            replace q619 := eq_true q619
            have p620 : 0 ≤ (10 : Int) := (by omega)
            have q620 : 10 < (x12_2.length : Int) := of_decide_eq_true (by first | (with_reducible assumption) | assumption)
            obtain ⟨ad620, e620, hx620_0⟩ := Kd.at_int (Kd.R_reads' HO_12.out).2.2 10 p620 q620
            obtain rfl : ad619 = ad620 := (by injection e620)
            (try simp only [show (10 : Int).toNat = 10 from rfl, Nat.reduceMul, Nat.reduceEqDiff, Go.Addr.add, ↓reduceIte] at hx620_0)
            have qi620 : (10 < x12_2.length) = True := eq_true (by omega)
            (try rw [show ((10 : Int)).toNat = 10 from rfl] at hx620_0)
            replace p620 := eq_true p620
            replace q620 := eq_true q620
            go_wp2
            go_meet
            case rel => exact ⟨_, (true), Zz.q, H', ⟨by have := HJ6.out; have := HK2.out; have := HJ35.out; first | omega | exact Nat.le_refl _⟩, ⟨Zz.r HO_604017.out⟩, ⟨Zz.p BK559.out⟩, ⟨Zz.p BK560.out⟩, ⟨Zz.p BK603.out⟩, ⟨Zz.i HB.out⟩⟩
           rw [if_neg c122] at H
           have c122b0 : decide (1 < (rd x12_2 10)) = false := decide_eq_false c122
           clear c122
           replace H := Option.bind_eq_some_iff.mp H
           obtain ⟨t621, A1230, H⟩ := H
           try dsimp only at H
           have A123 := Aside0.mk A1230
           clear A1230
           have H' := Aside0.mk H
           clear H
           have p619 : 0 ≤ (10 : Int) := (by omega)
           have q619 : 10 < (x12_2.length : Int) := of_decide_eq_true (by first | (with_reducible assumption) | assumption)
           obtain ⟨ad619, e619, hx619_0⟩ := Kd.at_int (Kd.R_reads' HO_12.out).2.2 10 p619 q619
           cases e619
           (try simp only [show (10 : Int).toNat = 10 from rfl, Nat.reduceMul, Nat.reduceEqDiff, Go.Addr.add, ↓reduceIte] at hx619_0)
           have qi619 : (10 < x12_2.length) = True := eq_true (by omega)
           (try rw [show ((10 : Int)).toNat = 10 from rfl] at hx619_0)
           replace p619 := eq_true p619
           replace q619 := eq_true q619
           have p620 : 0 ≤ (10 : Int) := (by omega)
           have q620 : 10 < (x12_2.length : Int) := of_decide_eq_true (by first | (with_reducible assumption) | assumption)
           obtain ⟨ad620, e620, hx620_0⟩ := Kd.at_int (Kd.R_reads' HO_12.out).2.2 10 p620 q620
           obtain rfl : ad619 = ad620 := (by injection e620)
           (try simp only [show (10 : Int).toNat = 10 from rfl, Nat.reduceMul, Nat.reduceEqDiff, Go.Addr.add, ↓reduceIte] at hx620_0)
           have qi620 : (10 < x12_2.length) = True := eq_true (by omega)
           (try rw [show ((10 : Int)).toNat = 10 from rfl] at hx620_0)
           replace p620 := eq_true p620
           replace q620 := eq_true q620
           have hnb124 := NB603_559.out
           have hnc124 := NB559_603.out
           have hnb125 := NB603_560.out
           have hnc125 := NB560_603.out
           have hcz126 := Zz.c18 BK603.out
           have hfz126 := blk_frozen BK603.out
           go_wp2_with (first | (go_at_call 43; (with_reducible refine (headgateref18_MayAsk.calls kj35 t583 t584 t585 t586 t587 t588 t589 t590 t591 t592 t593 t594 t595 t596 t597 t598 t599 _ _ t600 t621 _ ?side1 ?side2 A123.out).mono ?_); (case side1 => repeat (first | exact (Kd.R_reads' HO_604017.out).2.2 | (with_reducible refine Kd.C_alloc ?_ _) | (with_reducible refine Kd.C_drewN ?_ _) | (with_reducible refine Kd.C_drew ?_))); (case side2 => exact (Kd.R_reads' HO_604017.out).2.1); rintro e w127 ⟨rfl, hb⟩; replace HO_12 := Aside0.mk (Kd.R_below (Zz.r HO_12.out) hb); replace HO_604017 := Aside0.mk (Kd.R_below (Zz.r HO_604017.out) hb); replace BK559 := Aside0.mk (Zz.bb BK559.out hb); replace BK560 := Aside0.mk (Zz.bb BK560.out hb); replace BK603 := Aside0.mk (Zz.bb BK603.out hb); replace HB := Aside0.mk (below_step (Zz.i HB.out) hb); (try clear hb)))
           go_meet
           case rel => exact ⟨_, (!t621), Zz.q, H', ⟨by have := HJ6.out; have := HK2.out; have := HJ35.out; first | omega | exact Nat.le_refl _⟩, ⟨Zz.r HO_604017.out⟩, ⟨Zz.p BK559.out⟩, ⟨Zz.p BK560.out⟩, ⟨Zz.p BK603.out⟩, ⟨Zz.i HB.out⟩⟩
          rw [if_neg c120] at H
          exact absurd H (by simp)
         clear HC118
         (try clear c1);(try clear p2);(try clear p5);(try clear q5);(try clear hx5);(try clear c6);(try clear p6);(try clear q6);(try clear hx6);(try clear qi6);(try clear c7);(try clear c8);(try clear c9);(try clear c10);(try clear c11);(try clear c12);(try clear p58);(try clear q58);(try clear hx58);(try clear p61);(try clear q61);(try clear hx61);(try clear qi61);(try clear c62);(try clear p62);(try clear q62);(try clear hx62);(try clear qi62);(try clear c64);(try clear c71);(try clear c72);(try clear c73);(try clear c76);(try clear c76b0);(try clear c76b1);(try clear c77);(try clear c78);(try clear c79);(try clear c80);(try clear c82);(try clear c83);(try clear c86);(try clear c87);(try clear c88);(try clear c90);(try clear c91);(try clear c93);(try clear c93b0);(try clear c93b1);(try clear c94);(try clear c94b0);(try clear c94b1);(try clear c95);(try clear c95b0);(try clear c96);(try clear c96b0);(try clear c98);(try clear c99);(try clear c100);(try clear c103);(try clear c104);(try clear c105);(try clear c106);(try clear c108);(try clear c109);(try clear c111);(try clear c112);(try clear c113);(try clear c115);(try clear c116);(try clear c119);(try clear c119b0);(try clear c119b1);(try clear c120);(try clear c120b0);(try clear c120b1);(try clear c121);(try clear c121b0);(try clear c122);(try clear c122b0);(try clear c124);(try clear c125);(try clear hcz101);(try clear hcz107);(try clear hcz110);(try clear hcz114);(try clear hcz117);(try clear hcz126);(try clear hcz63);(try clear hcz74);(try clear hcz81);(try clear hcz84);(try clear hcz89);(try clear hcz92);(try clear hfz101);(try clear hfz107);(try clear hfz110);(try clear hfz114);(try clear hfz117);(try clear hfz126);(try clear hfz63);(try clear hfz74);(try clear hfz81);(try clear hfz84);(try clear hfz89);(try clear hfz92);(try clear hx581_0);(try clear hx582_0);(try clear hx616_0);(try clear hx617_0);(try clear hx619_0);(try clear hx620_0);(try clear p581);(try clear p582);(try clear p616);(try clear p617);(try clear p619);(try clear p620);(try clear q581);(try clear q582);(try clear q616);(try clear q617);(try clear q619);(try clear q620)
         obtain ⟨kq, x120_117, rfl, HA, HJ117, HO_604017, BK559, BK560, BK603, HB⟩ := hcut
         cases kq with
         | zero => exact absurd HA.out (by simp [headgateref18_DecodeAsk.j5])
         | succ kj117 =>
          have H := HA.out
          clear HA
          simp only [headgateref18_DecodeAsk.j5] at H
          by_cases c128 : x120_117 = true
          ·subst c128
           rw [if_pos rfl] at H
           simp only [Option.some.injEq, Prod.mk.injEq] at H
           obtain ⟨rfl, rfl, rfl, rfl, rfl, rfl, rfl, rfl, rfl, rfl, rfl, rfl, rfl, rfl, rfl, rfl, rfl, rfl, rfl⟩ := H
           have hnb129 := NB560_559.out
           have hnc129 := NB559_560.out
           have hnb130 := NB560_603.out
           have hnc130 := NB603_560.out
           have hcz131 := Zz.c18 BK560.out
           have hfz131 := blk_frozen BK560.out
           have hnb132 := NB559_603.out
           have hnc132 := NB603_559.out
           have hcz133 := Zz.c18 BK559.out
           have hfz133 := blk_frozen BK559.out
           go_wp2
           refine bodyPost_ret (results_ct rfl _ _ gb559 43 #[.int .i64 0, .int .i64 0, .int .i64 0, .int .i64 0, .int .i64 0, .int .i64 0, .int .i64 0, .int .i64 0, .int .i64 0, .int .i64 0, .int .i64 0, .int .i64 0, .bool false, .int .i64 0, .int .i64 0, .int .i64 0, .int .i64 0, .slice none 0 0] (0, 0) _ rfl (by (with_reducible repeat (first | refine blk_drewN ?_ _ | refine blk_drew ?_ | refine blk_alloc ?_ _)); exact Zz.u18_0_17 BK559.out) Try.underlying43 rfl (by kernel_rfl)) rfl ?_
           exact ⟨_, Zr.e, by first | exact Kd.R_nil _ _ _ _ _ | exact Kd.N_nil _ _ _ _ _ | exact Kd.V_nil _ _ _ _ _ | exact Kd.Q_nil _ _ _ _ _ | exact Kd.S_nil _ _ _ _ _, Zz.i HB.out⟩
          replace c128 := Bool.eq_false_iff.mpr c128
          subst c128
          rw [if_neg Bool.false_ne_true] at H
          simp only [Option.some.injEq, Prod.mk.injEq] at H
          obtain ⟨rfl, rfl, rfl, rfl, rfl, rfl, rfl, rfl, rfl, rfl, rfl, rfl, rfl, rfl, rfl, rfl, rfl, rfl, rfl⟩ := H
          have hnb134 := NB603_559.out
          have hnc134 := NB559_603.out
          have hnb135 := NB603_560.out
          have hnc135 := NB560_603.out
          have hcz136 := Zz.c18 BK603.out
          have hfz136 := blk_frozen BK603.out
          have hnb137 := NB559_560.out
          have hnc137 := NB560_559.out
          have hcz138 := Zz.c18 BK559.out
          have hfz138 := blk_frozen BK559.out
          go_wp2
          refine bodyPost_ret (results_ct rfl _ _ gb559 43 #[.int .i64 t583, .int .i64 t584, .int .i64 t585, .int .i64 t586, .int .i64 t587, .int .i64 t588, .int .i64 t589, .int .i64 t590, .int .i64 t591, .int .i64 t592, .int .i64 t593, .int .i64 t594, .bool t595, .int .i64 t596, .int .i64 t597, .int .i64 t598, .int .i64 t599, .slice Ao59 t600.length co59] (0, 0) _ rfl (by (with_reducible repeat (first | refine blk_drewN ?_ _ | refine blk_drew ?_ | refine blk_alloc ?_ _)); exact Zz.u18_0_17 BK559.out) Try.underlying43 rfl (by kernel_rfl)) rfl ?_
          exact ⟨_, Zr.e, by (with_reducible repeat (first | apply Kd.R_alloc | apply Kd.R_drewN | apply Kd.R_drew)); exact Kd.R_mono (Zz.f18 (Kd.R_types HO_604017.out BK559.out (by decide)) (fun _ hk => hk.2)) (fun _ hk => trivial), Zz.i HB.out⟩
       rw [if_neg c34] at H
       exact absurd H (by simp)
      rw [if_neg c33] at H
      exact absurd H (by simp)
  rw [if_neg c4] at H
  exact absurd H (by simp)
 rw [if_neg c3] at H
 obtain ⟨c3b0, c3b1⟩ := Zr.n c3
 simp only [Option.some.injEq, Prod.mk.injEq] at H
 obtain ⟨rfl, rfl, rfl, rfl, rfl, rfl, rfl, rfl, rfl, rfl, rfl, rfl, rfl, rfl, rfl, rfl, rfl, rfl, rfl⟩ := H
 go_enter Try.func19, Try.ntmps19
 go_wp2_with (first | ((with_reducible refine gate_dst (N := 2) rfl ?_); refine box_event ?hg (N := 2) ?hd (cs := #[.int .i64 0, .int .i64 0, .int .i64 0, .int .i64 0, .int .i64 0, .int .i64 0, .int .i64 0, .int .i64 0, .int .i64 0, .int .i64 0, .int .i64 0, .int .i64 0, .bool false, .int .i64 0, .int .i64 0, .int .i64 0, .int .i64 0, .slice none 0 0]) (t := 43) ?hr ?_; (case hd => rfl); (case hg => rfl); (case hr => first | (go_simp; done) | (go_simp; rfl)); intro gb559 hg w139 hbox hb; have BK559 := Aside0.mk (hbox); have GW559 := Aside0.mk (Zz.ge hg HB.out); have GE559 := Aside0.mk (Zz.ge hg HB.out); replace HB := Aside0.mk (below_step (Zz.i HB.out) hb); clear hb hbox hg) | ((with_reducible refine gate_dst (N := 4) rfl ?_); refine box_event ?hg (N := 4) ?hd (cs := #[.int .i64 0, .int .i64 0, .int .i64 0, .int .i64 0, .int .i64 0, .int .i64 0, .int .i64 0, .int .i64 0, .int .i64 0, .int .i64 0, .int .i64 0, .int .i64 0, .bool false, .int .i64 0, .int .i64 0, .int .i64 0, .int .i64 0, .slice none 0 0]) (t := 43) ?hr ?_; (case hd => rfl); (case hg => rfl); (case hr => first | (go_simp; done) | (go_simp; rfl)); intro gb560 hg w140 hbox hb; have BK560 := Aside0.mk (hbox); have GW560 := Aside0.mk (Zz.ge hg HB.out); have GE560 := Aside0.mk (Zz.ge hg HB.out); replace HB := Aside0.mk (below_step (Zz.i HB.out) hb); have NB559_560 := Aside0.mk (Zz.nl hg BK559.out); have NB560_559 := Aside0.mk (Zz.ng hg BK559.out); replace BK559 := Aside0.mk (Zz.bb BK559.out hb); clear hb hbox hg; have hnb141 := NB560_559.out; have hnc141 := NB559_560.out; have hcz142 := Zz.c18 BK560.out; have hfz142 := blk_frozen BK560.out) | ((with_reducible refine gate_callee (f := 34) rfl ?_); refine goesL_ (some 23) rfl rfl Try.func34 (by kernel_rfl) rfl #[.string a0, .int .i64 2] rfl Zz.g ?_; (with_reducible refine (headgateref01_TakeAll.calls k a0 2 t561 t562 t563 _ A2.out).mono ?_); rintro e w143 ⟨v564, rfl, ho0, hb⟩; refine ⟨_, rfl, ?_⟩; have n0_ := Aside0.mk (Kd.R_lower ho0 (below_size (Zz.i HB.out))); have n1_ := Aside0.mk (blk_below (g := gb559) (o := .cells #[.int .i64 0, .int .i64 0, .int .i64 0, .int .i64 0, .int .i64 0, .int .i64 0, .int .i64 0, .int .i64 0, .int .i64 0, .int .i64 0, .int .i64 0, .int .i64 0, .bool false, .int .i64 0, .int .i64 0, .int .i64 0, .int .i64 0, .slice none 0 0] 43 (0, 0)) (by exact Zz.q18 BK559.out NB559_560.out) hb); have n2_ := Aside0.mk (blk_below (g := gb560) (o := .cells #[.int .i64 0, .int .i64 0, .int .i64 0, .int .i64 0, .int .i64 0, .int .i64 0, .int .i64 0, .int .i64 0, .int .i64 0, .int .i64 0, .int .i64 0, .int .i64 0, .bool false, .int .i64 0, .int .i64 0, .int .i64 0, .int .i64 0, .slice none 0 0] 43 (0, 0)) (by (with_reducible repeat (first | refine blk_drewN ?_ _ | refine blk_drew ?_ | refine blk_alloc ?_ _)); exact Zz.u18_0_17 BK560.out) hb); have n3_ := Aside0.mk (below_step (Zz.i HB.out) hb); clear BK559; clear BK560; clear HB; have HO565 := n0_; have BK559 := n1_; have BK560 := n2_; have HB := n3_; clear n0_ n1_ n2_ n3_; (try clear hb); (try clear ho0); have hcz144 := Zz.c18 BK560.out; have hfz144 := blk_frozen BK560.out; have hcz145 := Zz.c18 BK559.out; have hfz145 := blk_frozen BK559.out))
 refine bodyPost_ret (results_ct rfl _ _ gb559 43 #[.int .i64 0, .int .i64 0, .int .i64 0, .int .i64 0, .int .i64 0, .int .i64 0, .int .i64 0, .int .i64 0, .int .i64 0, .int .i64 0, .int .i64 0, .int .i64 0, .bool false, .int .i64 0, .int .i64 0, .int .i64 0, .int .i64 0, .slice none 0 0] (0, 0) _ rfl (by (with_reducible repeat (first | refine blk_drewN ?_ _ | refine blk_drew ?_ | refine blk_alloc ?_ _)); exact Zz.u18_0_17 BK559.out) Try.underlying43 rfl (by kernel_rfl)) rfl ?_
 exact ⟨_, Zr.e, by first | exact Kd.R_nil _ _ _ _ _ | exact Kd.N_nil _ _ _ _ _ | exact Kd.V_nil _ _ _ _ _ | exact Kd.Q_nil _ _ _ _ _ | exact Kd.S_nil _ _ _ _ _, Zz.i HB.out⟩

end Go.Proofs.Ytikbpjdgihheiaa.P
end
