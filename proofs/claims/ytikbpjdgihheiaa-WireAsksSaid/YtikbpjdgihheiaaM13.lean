-- Written by wip/mk.py of this repo: the kit's print program, with contracts of our own among its functions (merge.py: Px36).
import Derived.Test.YtikbpjdgihheiaaM0
import Derived.Test.YtikbpjdgihheiaaM2
import Derived.Test.YtikbpjdgihheiaaM1
import Derived.Test.YtikbpjdgihheiaaM5
import Derived.Test.YtikbpjdgihheiaaM12
import Derived.Test.YtikbpjdgihheiaaKs
import Derived.Test.YtikbpjdgihheiaaZz
import Derived.Test.YtikbpjdgihheiaaZr
section
namespace Go.Proofs.Ytikbpjdgihheiaa.P
open Go.RowKit Go.Proofs.YtikbpjdgihheiaaW.PrintWords Go.Proofs.YtikbpjdgihheiaaW.PrintLast Go.Proofs.YtikbpjdgihheiaaW.PrintMore
attribute [local go_sem] max2_int min2_int max_two min_two max_three min_three max_four min_four   -- for this text's walks alone
attribute [local go_sem ↓] Kp.LDAsk_in Ks.STAsk_in
attribute [local go_sem] Kp.LDAsk_run Ks.STAsk_run
set_option linter.unusedVariables false
set_option linter.unusedSimpArgs false

/-! ### wire_DecodeAsk: function 18 -/
theorem wire_DecodeAsk.far18 {W : World} {g : Nat} {a : Addr} {x : Option Value} (h : a.block ≠ g) {o0 o1 o2 o3 o4 o5 o6 o7 o8 o9 o10 o11 o12 o13 o14 o15 o16 o17 : Nat} {v0 v1 v2 v3 v4 v5 v6 v7 v8 v9 v10 v11 v12 v13 v14 v15 v16 v17 : Value} (e : W.cell? a = x) : ((((((((((((((((((W.setCell ⟨g, o0, none⟩ v0).setCell ⟨g, o1, none⟩ v1).setCell ⟨g, o2, none⟩ v2).setCell ⟨g, o3, none⟩ v3).setCell ⟨g, o4, none⟩ v4).setCell ⟨g, o5, none⟩ v5).setCell ⟨g, o6, none⟩ v6).setCell ⟨g, o7, none⟩ v7).setCell ⟨g, o8, none⟩ v8).setCell ⟨g, o9, none⟩ v9).setCell ⟨g, o10, none⟩ v10).setCell ⟨g, o11, none⟩ v11).setCell ⟨g, o12, none⟩ v12).setCell ⟨g, o13, none⟩ v13).setCell ⟨g, o14, none⟩ v14).setCell ⟨g, o15, none⟩ v15).setCell ⟨g, o16, none⟩ v16).setCell ⟨g, o17, none⟩ v17).cell? a = x := ((cell_far (p := ⟨g, o17, none⟩) h v17).trans ((cell_far (p := ⟨g, o16, none⟩) h v16).trans ((cell_far (p := ⟨g, o15, none⟩) h v15).trans ((cell_far (p := ⟨g, o14, none⟩) h v14).trans ((cell_far (p := ⟨g, o13, none⟩) h v13).trans ((cell_far (p := ⟨g, o12, none⟩) h v12).trans ((cell_far (p := ⟨g, o11, none⟩) h v11).trans ((cell_far (p := ⟨g, o10, none⟩) h v10).trans ((cell_far (p := ⟨g, o9, none⟩) h v9).trans ((cell_far (p := ⟨g, o8, none⟩) h v8).trans ((cell_far (p := ⟨g, o7, none⟩) h v7).trans ((cell_far (p := ⟨g, o6, none⟩) h v6).trans ((cell_far (p := ⟨g, o5, none⟩) h v5).trans ((cell_far (p := ⟨g, o4, none⟩) h v4).trans ((cell_far (p := ⟨g, o3, none⟩) h v3).trans ((cell_far (p := ⟨g, o2, none⟩) h v2).trans ((cell_far (p := ⟨g, o1, none⟩) h v1).trans ((cell_far (p := ⟨g, o0, none⟩) h v0).trans e))))))))))))))))))
mutual
def wire_DecodeAsk.j0 : Nat → ByteArray → ByteArray → List Int → Bool → Int → Int → Int → Int → Int → Int → Int → Int → Int → Int → Int → Int → Int → Bool → Int → Int → Int → Int → Option (Int × Int × Int × Int × Int × Int × Int × Int × Int × Int × Int × Int × Bool × Int × Int × Int × Int × (List (S57)) × Int)
  | 0, _, _, _, _, _, _, _, _, _, _, _, _, _, _, _, _, _, _, _, _, _, _ => none
  | k + 1, x0, x5, x8, x9, x10, x493000, x493001, x493002, x493003, x493004, x493005, x493006, x493007, x493008, x493009, x493010, x493011, x493012, x493013, x493014, x493015, x493016 => (varint_TakeAll.f k x5 x10).bind fun bt498 => (if x9 = true then (wire_DecodeAsk.j1 k x0 bt498.2.1 x8 x10 bt498.1 (bt498.2.2 != 0) x493000 x493001 x493002 x493003 x493004 x493005 x493006 x493007 x493008 x493009 x493010 x493011 x493012 x493013 x493014 x493015 x493016) else (wire_DecodeAsk.j1 k x0 bt498.2.1 x8 x10 bt498.1 true x493000 x493001 x493002 x493003 x493004 x493005 x493006 x493007 x493008 x493009 x493010 x493011 x493012 x493013 x493014 x493015 x493016))
def wire_DecodeAsk.j1 : Nat → ByteArray → ByteArray → List Int → Int → List Int → Bool → Int → Int → Int → Int → Int → Int → Int → Int → Int → Int → Int → Int → Bool → Int → Int → Int → Int → Option (Int × Int × Int × Int × Int × Int × Int × Int × Int × Int × Int × Int × Bool × Int × Int × Int × Int × (List (S57)) × Int)
  | 0, _, _, _, _, _, _, _, _, _, _, _, _, _, _, _, _, _, _, _, _, _, _, _ => none
  | k + 1, x0, x5, x8, x10, x11, x59, x493000, x493001, x493002, x493003, x493004, x493005, x493006, x493007, x493008, x493009, x493010, x493011, x493012, x493013, x493014, x493015, x493016 => if x59 = true then (some (0, 0, 0, 0, 0, 0, 0, 0, 0, 0, 0, 0, false, 0, 0, 0, 0, ([] : List (S57)), 2)) else (wire_DecodeAsk.l0 k x0 x5 x10 x11 x8 (x8.length : Int) 0 x493000 x493001 x493002 x493003 x493004 x493005 x493006 x493007 x493008 x493009 x493010 x493011 x493012 x493013 x493014 x493015 x493016)
def wire_DecodeAsk.l0 : Nat → ByteArray → ByteArray → Int → List Int → List Int → Int → Int → Int → Int → Int → Int → Int → Int → Int → Int → Int → Int → Int → Int → Bool → Int → Int → Int → Int → Option (Int × Int × Int × Int × Int × Int × Int × Int × Int × Int × Int × Int × Bool × Int × Int × Int × Int × (List (S57)) × Int)
  | 0, _, _, _, _, _, _, _, _, _, _, _, _, _, _, _, _, _, _, _, _, _, _, _, _ => none
  | k + 1, x0, x5, x10, x11, x61, x62, x63, x493000, x493001, x493002, x493003, x493004, x493005, x493006, x493007, x493008, x493009, x493010, x493011, x493012, x493013, x493014, x493015, x493016 => if x63 < x62 then (if 0 ≤ x63 then (if x63 < (x61.length : Int) then (if x63 < (x11.length : Int) then (if 2 ≤ (rd x61 x63) then (if (rd x61 x63) ≤ 11 then (wire_DecodeAsk.l0 k x0 x5 x10 x11 x61 x62 (wrap64 (x63 + 1)) x493000 x493001 (Kp.fset (rd x61 x63) 2 (rd x11 x63) x493002) (Kp.fset (rd x61 x63) 3 (rd x11 x63) x493003) (Kp.fset (rd x61 x63) 4 (rd x11 x63) x493004) (Kp.fset (rd x61 x63) 5 (rd x11 x63) x493005) (Kp.fset (rd x61 x63) 6 (rd x11 x63) x493006) (Kp.fset (rd x61 x63) 7 (rd x11 x63) x493007) (Kp.fset (rd x61 x63) 8 (rd x11 x63) x493008) (Kp.fset (rd x61 x63) 9 (rd x11 x63) x493009) (Kp.fset (rd x61 x63) 10 (rd x11 x63) x493010) (Kp.fset (rd x61 x63) 11 (rd x11 x63) x493011) x493012 x493013 x493014 x493015 x493016) else (none)) else (none)) else (none)) else (none)) else (none)) else ((wire_flagged.f x493000).bind fun t505 => (if t505 = true then (if 0 ≤ (wrap64 (x10 - 1)) then (if (wrap64 (x10 - 1)) < (x11.length : Int) then (wire_DecodeAsk.j3 k x0 x5 x493000 x493001 x493002 x493003 x493004 x493005 x493006 x493007 x493008 x493009 x493010 x493011 ((rd x11 (wrap64 (x10 - 1))) == 1) x493013 x493014 x493015 x493016) else (none)) else (none)) else (wire_DecodeAsk.j3 k x0 x5 x493000 x493001 x493002 x493003 x493004 x493005 x493006 x493007 x493008 x493009 x493010 x493011 x493012 x493013 x493014 x493015 x493016)))
def wire_DecodeAsk.j3 : Nat → ByteArray → ByteArray → Int → Int → Int → Int → Int → Int → Int → Int → Int → Int → Int → Int → Bool → Int → Int → Int → Int → Option (Int × Int × Int × Int × Int × Int × Int × Int × Int × Int × Int × Int × Bool × Int × Int × Int × Int × (List (S57)) × Int)
  | 0, _, _, _, _, _, _, _, _, _, _, _, _, _, _, _, _, _, _, _ => none
  | k + 1, x0, x5, x493000, x493001, x493002, x493003, x493004, x493005, x493006, x493007, x493008, x493009, x493010, x493011, x493012, x493013, x493014, x493015, x493016 => if x493000 = 3 then ((varint_TakeText.f x5 (x5.size : Int)).bind fun bt507 => ((batch_Decode.f k bt507.1).bind fun bt510 => ((wire_EncodeAsk.f k x493000 x493001 x493002 x493003 x493004 x493005 x493006 x493007 x493008 x493009 x493010 x493011 x493012 bt510.1 bt510.2.1 bt510.2.2.1 bt510.2.2.2.1 bt510.2.2.2.2.1).bind fun bt518 => (if bt518.2 = 0 then (if bt518.1.toList = x0.toList then (some (x493000, x493001, x493002, x493003, x493004, x493005, x493006, x493007, x493008, x493009, x493010, x493011, x493012, bt510.1, bt510.2.1, bt510.2.2.1, bt510.2.2.2.1, bt510.2.2.2.2.1, 0)) else (some (0, 0, 0, 0, 0, 0, 0, 0, 0, 0, 0, 0, false, 0, 0, 0, 0, ([] : List (S57)), 2))) else (some (0, 0, 0, 0, 0, 0, 0, 0, 0, 0, 0, 0, false, 0, 0, 0, 0, ([] : List (S57)), 2)))))) else ((wire_EncodeAsk.f k x493000 x493001 x493002 x493003 x493004 x493005 x493006 x493007 x493008 x493009 x493010 x493011 x493012 x493013 x493014 x493015 x493016 ([] : List (S57))).bind fun bt520 => (if bt520.2 = 0 then (if bt520.1.toList = x0.toList then (some (x493000, x493001, x493002, x493003, x493004, x493005, x493006, x493007, x493008, x493009, x493010, x493011, x493012, x493013, x493014, x493015, x493016, ([] : List (S57)), 0)) else (some (0, 0, 0, 0, 0, 0, 0, 0, 0, 0, 0, 0, false, 0, 0, 0, 0, ([] : List (S57)), 2))) else (some (0, 0, 0, 0, 0, 0, 0, 0, 0, 0, 0, 0, false, 0, 0, 0, 0, ([] : List (S57)), 2))))
end
def wire_DecodeAsk.f (k : Nat) (a0 : ByteArray) : Option (Int × Int × Int × Int × Int × Int × Int × Int × Int × Int × Int × Int × Bool × Int × Int × Int × Int × (List (S57)) × Int) := (varint_TakeAll.f k a0 2).bind fun bt485 => (if bt485.2.2 = 0 then (if 0 < (bt485.1.length : Int) then (if 1 < (bt485.1.length : Int) then ((wire_fields.f (rd bt485.1 0)).bind fun bt493 => ((wire_flagged.f (rd bt485.1 0)).bind fun t497 => (if t497 = true then (wire_DecodeAsk.j0 k a0 bt485.2.1 bt493.1 bt493.2 (wrap64 ((bt493.1.length : Int) + 1)) (rd bt485.1 0) (rd bt485.1 1) 0 0 0 0 0 0 0 0 0 0 false 0 0 0 0) else (wire_DecodeAsk.j0 k a0 bt485.2.1 bt493.1 bt493.2 (bt493.1.length : Int) (rd bt485.1 0) (rd bt485.1 1) 0 0 0 0 0 0 0 0 0 0 false 0 0 0 0)))) else (none)) else (none)) else (some (0, 0, 0, 0, 0, 0, 0, 0, 0, 0, 0, 0, false, 0, 0, 0, 0, ([] : List (S57)), bt485.2.2)))
def wire_DecodeAsk.T4 : Bool × List (List Nat × List Nat) := (true, [([], []), ([0], [0]), ([1], [1]), ([], []), ([3], [3]), ([4], [4]), ([2, 5], [2, 5]), ([], []), ([7, 6, 0, 1, 2, 3, 4, 5, 6, 7], [6, 7])])
def wire_DecodeAsk.B4 : List Nat := [0, 1, 3, 0, 8, 24, 63, 0, 255]
theorem wire_DecodeAsk.tab4 : rtab .any (opsOf Try.f18 4) = wire_DecodeAsk.T4 := by kernel_rfl
theorem wire_DecodeAsk.bits4 : waitsOk wire_DecodeAsk.T4.2 wire_DecodeAsk.B4 = true := by kernel_rfl
set_option maxHeartbeats 8000000 in
set_option maxRecDepth 100000 in
theorem wire_DecodeAsk.calls (k : Nat) (a0 : ByteArray) (r1 : Int) (r2 : Int) (r3 : Int) (r4 : Int) (r5 : Int) (r6 : Int) (r7 : Int) (r8 : Int) (r9 : Int) (r10 : Int) (r11 : Int) (r12 : Int) (r13 : Bool) (r14 : Int) (r15 : Int) (r16 : Int) (r17 : Int) (r18 : List (S57)) (r19 : Int) (w : World) (h : wire_DecodeAsk.f k a0 = some (r1, r2, r3, r4, r5, r6, r7, r8, r9, r10, r11, r12, r13, r14, r15, r16, r17, r18, r19)) :
    Calls Try.prog 18 #[.string a0] w fun e w' => ∃ v17_ : Value, e = .returned (.tuple #[.agg #[.int .i64 r1, .int .i64 r2, .int .i64 r3, .int .i64 r4, .int .i64 r5, .int .i64 r6, .int .i64 r7, .int .i64 r8, .int .i64 r9, .int .i64 r10, .int .i64 r11, .int .i64 r12, .bool r13, .int .i64 r14, .int .i64 r15, .int .i64 r16, .int .i64 r17, v17_], .int .i64 r19]) ∧ Kd.R k57 57 w' w.heap.size (fun _ => True) v17_ r18 ∧ Below w.heap.size w w' := by
 have hu43 := Try.underlying43
 have hu41 := Try.underlying41
 have HB := Aside0.mk (Below.refl w.heap.size w)
 have H : ((varint_TakeAll.f k a0 2).bind fun bt485 => (if bt485.2.2 = 0 then (if 0 < (bt485.1.length : Int) then (if 1 < (bt485.1.length : Int) then ((wire_fields.f (rd bt485.1 0)).bind fun bt493 => ((wire_flagged.f (rd bt485.1 0)).bind fun t497 => (if t497 = true then (wire_DecodeAsk.j0 k a0 bt485.2.1 bt493.1 bt493.2 (wrap64 ((bt493.1.length : Int) + 1)) (rd bt485.1 0) (rd bt485.1 1) 0 0 0 0 0 0 0 0 0 0 false 0 0 0 0) else (wire_DecodeAsk.j0 k a0 bt485.2.1 bt493.1 bt493.2 (bt493.1.length : Int) (rd bt485.1 0) (rd bt485.1 1) 0 0 0 0 0 0 0 0 0 0 false 0 0 0 0)))) else (none)) else (none)) else (some (0, 0, 0, 0, 0, 0, 0, 0, 0, 0, 0, 0, false, 0, 0, 0, 0, ([] : List (S57)), bt485.2.2)))) = some (r1, r2, r3, r4, r5, r6, r7, r8, r9, r10, r11, r12, r13, r14, r15, r16, r17, r18, r19) := h
 clear h
 replace H := Option.bind_eq_some_iff.mp H
 obtain ⟨⟨t485, t486, t487⟩, A20, H⟩ := H
 try dsimp only at H
 have A2 := Aside0.mk A20
 clear A20
 by_cases c3 : t487 = 0
 ·rw [if_pos c3] at H
  obtain ⟨c3b0, c3b1⟩ := Zr.y c3
  clear c3
  by_cases c4 : 0 < (t485.length : Int)
  ·rw [if_pos c4] at H
   have c4b0 : decide (0 < (t485.length : Int)) = true := decide_eq_true c4
   have c4b1 : decide (0 < t485.length) = true := decide_eq_true (by omega)
   clear c4
   by_cases c5 : 1 < (t485.length : Int)
   ·rw [if_pos c5] at H
    have c5b0 : decide (1 < (t485.length : Int)) = true := decide_eq_true c5
    have c5b1 : decide (1 < t485.length) = true := decide_eq_true (by omega)
    clear c5
    replace H := Option.bind_eq_some_iff.mp H
    obtain ⟨⟨t493, t496⟩, A60, H⟩ := H
    try dsimp only at H
    have A6 := Aside0.mk A60
    clear A60
    replace H := Option.bind_eq_some_iff.mp H
    obtain ⟨t497, A70, H⟩ := H
    try dsimp only at H
    have A7 := Aside0.mk A70
    clear A70
    have HC8 := Aside0.mk H
    clear H
    go_enter Try.func18, Try.ntmps18
    try go_wp2_with (first | ((with_reducible refine gate_dst (N := 2) rfl ?_); refine box_event ?hg (N := 2) ?hd (cs := #[.int .i64 0, .int .i64 0, .int .i64 0, .int .i64 0, .int .i64 0, .int .i64 0, .int .i64 0, .int .i64 0, .int .i64 0, .int .i64 0, .int .i64 0, .int .i64 0, .bool false, .int .i64 0, .int .i64 0, .int .i64 0, .int .i64 0, .slice none 0 0]) (t := 43) ?hr ?_; (case hd => rfl); (case hg => rfl); (case hr => first | (go_simp; done) | (go_simp; rfl)); intro gb484 hg w9 hbox hb; have BK484 := Aside0.mk (hbox); have GW484 := Aside0.mk (Zz.ge hg HB.out); have GE484 := Aside0.mk (Zz.ge hg HB.out); replace HB := Aside0.mk (below_step (Zz.i HB.out) hb); clear hb hbox hg) | ((with_reducible refine gate_callee (f := 32) rfl ?_); refine goesL_ (some 21) rfl rfl Try.func32 (by kernel_rfl) rfl #[.string a0, .int .i64 2] rfl Zz.g ?_; (with_reducible refine (varint_TakeAll.calls k a0 2 t485 t486 t487 _ A2.out).mono ?_); rintro e w10 ⟨v488, rfl, ho0, hb⟩; refine ⟨_, rfl, ?_⟩; have HO489 := Aside0.mk (Kd.R_lower ho0 (below_size (Zz.i HB.out))); replace BK484 := Aside0.mk (Zz.bb BK484.out hb); replace HB := Aside0.mk (below_step (Zz.i HB.out) hb); (try clear hb); (try clear ho0)))
    have n0_ := Aside0.mk (Kd.R_drew HO489.out)
    have n1_ := Aside0.mk (blk_drew BK484.out)
    have n2_ := Aside0.mk (below_drew1 HB.out)
    clear HO489
    clear BK484
    clear HB
    have HO489 := n0_
    have BK484 := n1_
    have HB := n2_
    clear n0_ n1_ n2_
    obtain ⟨Ao12, co12, eo12⟩ := Kd.R_slice HO489.out
    (first | subst eo12 | (injection eo12 with f1_ f2_ f3_; have f4_ := f1_.symm; have f5_ := f3_.symm; clear f1_ f2_ f3_; subst f4_; subst f5_))
    have p490 : 0 ≤ (0 : Int) := (by omega)
    have q490 : 0 < (t485.length : Int) := of_decide_eq_true (by first | (with_reducible assumption) | assumption)
    obtain ⟨ad490, e490, hx490_0⟩ := Kd.at_int (Kd.R_reads' HO489.out).2.2 0 p490 q490
    cases e490
    have qi490 : (0 < t485.length) = True := eq_true (by omega)
    (try rw [show ((0 : Int)).toNat = 0 from rfl] at hx490_0)
    (try rw [Addr.add_zero'] at hx490_0)
    replace p490 := eq_true p490
    replace q490 := eq_true q490
    have p491 : 0 ≤ (1 : Int) := (by omega)
    have q491 : 1 < (t485.length : Int) := of_decide_eq_true (by first | (with_reducible assumption) | assumption)
    obtain ⟨ad491, e491, hx491_0⟩ := Kd.at_int (Kd.R_reads' HO489.out).2.2 1 p491 q491
    obtain rfl : ad490 = ad491 := (by injection e491)
    (try simp only [show (1 : Int).toNat = 1 from rfl, Nat.reduceMul, Nat.reduceEqDiff, Go.Addr.add, ↓reduceIte] at hx491_0)
    have qi491 : (1 < t485.length) = True := eq_true (by omega)
    (try rw [show ((1 : Int)).toNat = 1 from rfl] at hx491_0)
    replace p491 := eq_true p491
    replace q491 := eq_true q491
    refine start_ (n := 9) (S := fun w' => w'.cell? ad490 = some (.int .i64 (rd t485 0)) ∧ w'.cell? ⟨ad490.block, ad490.off + 1, none⟩ = some (.int .i64 (rd t485 1))) (ds := []) #[false, false, false, false, false, false, false, false, false] (by kernel_rfl) rfl rfl ⟨hx490_0, hx491_0⟩ (fun hHeld => ?_); refine with_tabW wire_DecodeAsk.tab4 wire_DecodeAsk.bits4 (fun HT_ HW_ => ?_)
    generalize w10.drew = w11 at HO489 BK484 HB hx490_0 hx491_0 hHeld ⊢
    refine Zr.pu 0 29 HT_.out ?_
    refine Zr.pu 1 30 HT_.out ?_
    refine Zr.pu 3 32 HT_.out ?_
    refine Zr.pu 4 33 HT_.out ?_
    refine Zr.ta 2 31 HT_.out HW_.out hHeld ?_
    refine Zr.ta 5 34 HT_.out HW_.out hHeld ?_
    refine Zr.pu 6 35 HT_.out ?_
    refine one_ (i := 7) (N := some 7) #[true, true, true, true, true, true, true, true, false] rfl rfl (one_of HT_.out (by kernel_rfl)) (by decide) (fun K hK => ?_)
    refine box_step ?hg (N := 7) ?hd (cs := #[.int .i64 0, .int .i64 0, .int .i64 0, .int .i64 0, .int .i64 0, .int .i64 0, .int .i64 0, .int .i64 0, .int .i64 0, .int .i64 0, .int .i64 0, .int .i64 0, .bool false, .int .i64 0, .int .i64 0, .int .i64 0, .int .i64 0, .slice none 0 0]) (t := 43) ?hr ?_; (case hd => rfl); (case hg => rfl); (case hr => first | (go_simp; done) | (go_simp; rfl))
    intro gb492 hg w13 hbox hb
    have HS0_ := (hb.cell (World.block_lt_of_cell? _ _ (hHeld.1))).trans (hHeld.1)
    have HS1_ := (hb.cell (World.block_lt_of_cell? _ _ (hHeld.2))).trans (hHeld.2)
    have HNE0_492 : (ad490 : Addr).block ≠ gb492 := (by rw [hg]; exact Nat.ne_of_lt (World.block_lt_of_cell? _ _ (hHeld.1)))
    have HNE1_492 : (⟨ad490.block, ad490.off + 1, none⟩ : Addr).block ≠ gb492 := (by rw [hg]; exact Nat.ne_of_lt (World.block_lt_of_cell? _ _ (hHeld.2)))
    have n0_ := Aside0.mk (Kd.R_below (Zz.r HO489.out) hb)
    have n1_ := Aside0.mk (Zz.bb BK484.out hb)
    have n2_ := Aside0.mk (below_step (Zz.i HB.out) hb)
    have n3_ := Aside0.mk (hbox)
    have n4_ := Aside0.mk (Zz.ge hg HB.out)
    have n5_ := Aside0.mk (Zz.ge hg HB.out)
    have n6_ := Aside0.mk (Zz.nl hg BK484.out)
    have n7_ := Aside0.mk (Zz.ng hg BK484.out)
    clear HO489
    clear BK484
    clear HB
    have HO489 := n0_
    have BK484 := n1_
    have HB := n2_
    have BK492 := n3_
    have GW492 := n4_
    have GE492 := n5_
    have NB484_492 := n6_
    have NB492_484 := n7_
    clear n0_ n1_ n2_ n3_ n4_ n5_ n6_ n7_
    clear hb hbox hg
    refine hK.out _ _ ⟨HS0_, HS1_⟩ (fun hHeld => ?_)
    clear hK K
    refine norm_ (a' := ?_) ?_ ?_
    rotate_left
    ·show Act.put _ (some 7) _ = _
     simp only [Act.put, List.setIfInBounds_toArray, List.set_cons_zero, List.set_cons_succ, i64_w, i32_w]
     rfl
    refine one_ (i := 8) (N := none) #[true, true, true, true, true, true, true, true, true] rfl rfl (one_of HT_.out (by kernel_rfl)) (by decide) (fun K hK => ?_)
    have hs14 : w13.cell? ⟨gb492, 0, none⟩ = some (.int .i64 0) := (blk_cell BK492.out 0).trans rfl
    have hfs14 := blk_frozen BK492.out 0
    have hns14_0 := NB484_492.out
    have hms14_0 := NB492_484.out
    have hs15 : w13.cell? ⟨gb492, 1, none⟩ = some (.int .i64 0) := (blk_cell BK492.out 1).trans rfl
    have hfs15 := blk_frozen BK492.out 1
    have hns15_0 := NB484_492.out
    have hms15_0 := NB492_484.out
    have hs16 : w13.cell? ⟨gb492, 2, none⟩ = some (.int .i64 0) := (blk_cell BK492.out 2).trans rfl
    have hfs16 := blk_frozen BK492.out 2
    have hns16_0 := NB484_492.out
    have hms16_0 := NB492_484.out
    have hs17 : w13.cell? ⟨gb492, 3, none⟩ = some (.int .i64 0) := (blk_cell BK492.out 3).trans rfl
    have hfs17 := blk_frozen BK492.out 3
    have hns17_0 := NB484_492.out
    have hms17_0 := NB492_484.out
    have hs18 : w13.cell? ⟨gb492, 4, none⟩ = some (.int .i64 0) := (blk_cell BK492.out 4).trans rfl
    have hfs18 := blk_frozen BK492.out 4
    have hns18_0 := NB484_492.out
    have hms18_0 := NB492_484.out
    have hs19 : w13.cell? ⟨gb492, 5, none⟩ = some (.int .i64 0) := (blk_cell BK492.out 5).trans rfl
    have hfs19 := blk_frozen BK492.out 5
    have hns19_0 := NB484_492.out
    have hms19_0 := NB492_484.out
    have hs20 : w13.cell? ⟨gb492, 6, none⟩ = some (.int .i64 0) := (blk_cell BK492.out 6).trans rfl
    have hfs20 := blk_frozen BK492.out 6
    have hns20_0 := NB484_492.out
    have hms20_0 := NB492_484.out
    have hs21 : w13.cell? ⟨gb492, 7, none⟩ = some (.int .i64 0) := (blk_cell BK492.out 7).trans rfl
    have hfs21 := blk_frozen BK492.out 7
    have hns21_0 := NB484_492.out
    have hms21_0 := NB492_484.out
    have hs22 : w13.cell? ⟨gb492, 8, none⟩ = some (.int .i64 0) := (blk_cell BK492.out 8).trans rfl
    have hfs22 := blk_frozen BK492.out 8
    have hns22_0 := NB484_492.out
    have hms22_0 := NB492_484.out
    have hs23 : w13.cell? ⟨gb492, 9, none⟩ = some (.int .i64 0) := (blk_cell BK492.out 9).trans rfl
    have hfs23 := blk_frozen BK492.out 9
    have hns23_0 := NB484_492.out
    have hms23_0 := NB492_484.out
    have hs24 : w13.cell? ⟨gb492, 10, none⟩ = some (.int .i64 0) := (blk_cell BK492.out 10).trans rfl
    have hfs24 := blk_frozen BK492.out 10
    have hns24_0 := NB484_492.out
    have hms24_0 := NB492_484.out
    have hs25 : w13.cell? ⟨gb492, 11, none⟩ = some (.int .i64 0) := (blk_cell BK492.out 11).trans rfl
    have hfs25 := blk_frozen BK492.out 11
    have hns25_0 := NB484_492.out
    have hms25_0 := NB492_484.out
    have hs26 : w13.cell? ⟨gb492, 12, none⟩ = some (.bool false) := (blk_cell BK492.out 12).trans rfl
    have hfs26 := blk_frozen BK492.out 12
    have hns26_0 := NB484_492.out
    have hms26_0 := NB492_484.out
    have hs27 : w13.cell? ⟨gb492, 13, none⟩ = some (.int .i64 0) := (blk_cell BK492.out 13).trans rfl
    have hfs27 := blk_frozen BK492.out 13
    have hns27_0 := NB484_492.out
    have hms27_0 := NB492_484.out
    have hs28 : w13.cell? ⟨gb492, 14, none⟩ = some (.int .i64 0) := (blk_cell BK492.out 14).trans rfl
    have hfs28 := blk_frozen BK492.out 14
    have hns28_0 := NB484_492.out
    have hms28_0 := NB492_484.out
    have hs29 : w13.cell? ⟨gb492, 15, none⟩ = some (.int .i64 0) := (blk_cell BK492.out 15).trans rfl
    have hfs29 := blk_frozen BK492.out 15
    have hns29_0 := NB484_492.out
    have hms29_0 := NB492_484.out
    have hs30 : w13.cell? ⟨gb492, 16, none⟩ = some (.int .i64 0) := (blk_cell BK492.out 16).trans rfl
    have hfs30 := blk_frozen BK492.out 16
    have hns30_0 := NB484_492.out
    have hms30_0 := NB492_484.out
    have hs31 : w13.cell? ⟨gb492, 17, none⟩ = some (.slice none 0 0) := (blk_cell BK492.out 17).trans rfl
    have hfs31 := blk_frozen BK492.out 17
    have hns31_0 := NB484_492.out
    have hms31_0 := NB492_484.out
    refine skip_ (w1 := ?_) (by rfl) rfl ?_ ?_
    rotate_left
    ·go_simp
     rfl
    refine hK.out _ _ ⟨(wire_DecodeAsk.far18 (g := gb492) (by first | exact HNE0_492 | exact Kd.own_blk (Kd.R_ne HO489.out BK492.out (by decide)) | (rw [add_block]; exact Kd.own_blk (Kd.R_ne HO489.out BK492.out (by decide))) | (show (Addr.add _ _).block ≠ _; rw [add_block]; exact Kd.own_blk (Kd.R_ne HO489.out BK492.out (by decide))) | (dsimp only; exact Kd.own_blk (Kd.R_ne HO489.out BK492.out (by decide)))) (hHeld.1)), (wire_DecodeAsk.far18 (g := gb492) (by first | exact HNE1_492 | exact Kd.own_blk (Kd.R_ne HO489.out BK492.out (by decide)) | (rw [add_block]; exact Kd.own_blk (Kd.R_ne HO489.out BK492.out (by decide))) | (show (Addr.add _ _).block ≠ _; rw [add_block]; exact Kd.own_blk (Kd.R_ne HO489.out BK492.out (by decide))) | (dsimp only; exact Kd.own_blk (Kd.R_ne HO489.out BK492.out (by decide)))) (hHeld.2))⟩ (fun hHeld => ?_)
    clear hK K
    refine done_ (done_of HT_.out (by kernel_rfl)) ?_
    go_upto_if 44 with (first | ((with_reducible refine gate_callee (f := 38) rfl ?_); refine goesL_ (some 37) rfl rfl Try.func38 (by kernel_rfl) rfl #[.pointer (some ⟨gb492, 0, none⟩)] rfl Zz.g ?_; (with_reducible refine (wire_fields.calls gb492 #[.int .i64 (rd t485 0), .int .i64 (rd t485 1), .int .i64 0, .int .i64 0, .int .i64 0, .int .i64 0, .int .i64 0, .int .i64 0, .int .i64 0, .int .i64 0, .int .i64 0, .int .i64 0, .bool false, .int .i64 0, .int .i64 0, .int .i64 0, .int .i64 0, .slice none 0 0] (rd t485 0) t493 t496 _ ?side1 A6.out).mono ?_); (case side1 => exact ⟨by (with_reducible repeat (first | refine blk_drewN ?_ _ | refine blk_drew ?_ | refine blk_alloc ?_ _)); exact Zz.u18_0_17 BK492.out, rfl⟩); rintro e w32 ⟨v494, rfl, ho0, hb⟩; refine ⟨_, rfl, ?_⟩; have n0_ := Aside0.mk (Kd.R_below (by (with_reducible repeat (first | apply Kd.R_alloc | apply Kd.R_drewN | apply Kd.R_drew)); exact (Kd.R_mono (Zz.f18 (Kd.R_types HO489.out BK492.out (by first | decide | exact Kp.fp_ne (by decide))) (fun _ hk => hk.2)) (fun _ h_ => h_.1))) hb); have n1_ := Aside0.mk (Kd.R_lower ho0 (below_size (Zz.i HB.out))); have n2_ := Aside0.mk (blk_below (g := gb484) (o := .cells #[.int .i64 0, .int .i64 0, .int .i64 0, .int .i64 0, .int .i64 0, .int .i64 0, .int .i64 0, .int .i64 0, .int .i64 0, .int .i64 0, .int .i64 0, .int .i64 0, .bool false, .int .i64 0, .int .i64 0, .int .i64 0, .int .i64 0, .slice none 0 0] 43 (0, 0)) (by exact Zz.q18 BK484.out NB484_492.out) hb); have n3_ := Aside0.mk (blk_below (g := gb492) (o := .cells #[.int .i64 (rd t485 0), .int .i64 (rd t485 1), .int .i64 0, .int .i64 0, .int .i64 0, .int .i64 0, .int .i64 0, .int .i64 0, .int .i64 0, .int .i64 0, .int .i64 0, .int .i64 0, .bool false, .int .i64 0, .int .i64 0, .int .i64 0, .int .i64 0, .slice none 0 0] 43 (0, 0)) (by (with_reducible repeat (first | refine blk_drewN ?_ _ | refine blk_drew ?_ | refine blk_alloc ?_ _)); exact Zz.u18_0_17 BK492.out) hb); have n4_ := Aside0.mk (below_step (Zz.i HB.out) hb); clear HO489; clear BK484; clear BK492; clear HB; have HO489 := n0_; have HO495 := n1_; have BK484 := n2_; have BK492 := n3_; have HB := n4_; clear n0_ n1_ n2_ n3_ n4_; (try clear hb); (try clear hk); (try clear ho0); obtain ⟨Ao33, co33, eo33⟩ := Kd.R_slice HO495.out; subst eo33; have hnb34 := NB492_484.out; have hnc34 := NB484_492.out; have hcz35 := Zz.c18 BK492.out; have hfz35 := blk_frozen BK492.out) | ((with_reducible refine gate_callee (f := 39) rfl ?_); refine goesL_ (some 44) rfl rfl Try.func39 (by kernel_rfl) rfl #[.int .i64 (rd t485 0)] rfl Zz.g ?_; (with_reducible refine (wire_flagged.calls (rd t485 0) t497 _ A7.out).mono ?_); rintro e w' ⟨rfl, ⟨nd, rfl⟩⟩; refine ⟨_, rfl, ?_⟩))
    (try simp only [Act.put, List.setIfInBounds_toArray, List.set_cons_zero, List.set_cons_succ])
    go_cut [10] (fun v10 wc => ∃ (kq : Nat) (x10_7 : Int), v10 = .int .i64 x10_7 ∧ Aside0 (wire_DecodeAsk.j0 kq a0 t486 t493 t496 x10_7 (rd t485 0) (rd t485 1) 0 0 0 0 0 0 0 0 0 0 false 0 0 0 0 = some (r1, r2, r3, r4, r5, r6, r7, r8, r9, r10, r11, r12, r13, r14, r15, r16, r17, r18, r19)) ∧ Aside0 (kq ≤ k) ∧ Aside0 (Kd.R (Kp.fp gb492) 91 wc w.heap.size (fun _ => True) (.slice Ao33 t493.length co33) t493) ∧ Aside0 (wc.heap[gb484]? = some (.cells #[.int .i64 0, .int .i64 0, .int .i64 0, .int .i64 0, .int .i64 0, .int .i64 0, .int .i64 0, .int .i64 0, .int .i64 0, .int .i64 0, .int .i64 0, .int .i64 0, .bool false, .int .i64 0, .int .i64 0, .int .i64 0, .int .i64 0, (.slice none 0 0)] 43 (0, 0))) ∧ Aside0 (wc.heap[gb492]? = some (.cells #[.int .i64 (rd t485 0), .int .i64 (rd t485 1), .int .i64 0, .int .i64 0, .int .i64 0, .int .i64 0, .int .i64 0, .int .i64 0, .int .i64 0, .int .i64 0, .int .i64 0, .int .i64 0, .bool false, .int .i64 0, .int .i64 0, .int .i64 0, .int .i64 0, (.slice none 0 0)] 43 (0, 0))) ∧ Aside0 (Below w.heap.size w wc))
    case first =>
     have H := HC8.out
     clear HC8
     by_cases c36 : t497 = true
     ·subst c36
      rw [if_pos rfl] at H
      have H' := Aside0.mk H
      clear H
      go_wp2
      go_meet
      case rel => exact ⟨_, (wrap64 ((t493.length : Int) + 1)), Zz.q, H', ⟨by first | omega | exact Nat.le_refl _⟩, ⟨Zz.r HO495.out⟩, ⟨Zz.p BK484.out⟩, ⟨Zz.p BK492.out⟩, ⟨Zz.i HB.out⟩⟩
     replace c36 := Bool.eq_false_iff.mpr c36
     subst c36
     rw [if_neg Bool.false_ne_true] at H
     have H' := Aside0.mk H
     clear H
     go_wp2
     go_meet
     case rel => exact ⟨_, ((t493.length : Int)), Zz.q, H', ⟨by first | omega | exact Nat.le_refl _⟩, ⟨Zz.r HO495.out⟩, ⟨Zz.p BK484.out⟩, ⟨Zz.p BK492.out⟩, ⟨Zz.i HB.out⟩⟩
    clear HC8
    (try clear c1);(try clear p2);(try clear c3);(try clear c3b0);(try clear c3b1);(try clear c4);(try clear c4b0);(try clear c4b1);(try clear p4);(try clear q4);(try clear hx4);(try clear qi4);(try clear c5);(try clear c5b0);(try clear c5b1);(try clear p6);(try clear c18);(try clear c32);(try clear c34);(try clear c36);(try clear hcz35);(try clear hfz35);(try clear hx490_0);(try clear hx491_0);(try clear p490);(try clear p491);(try clear q490);(try clear q491)
    obtain ⟨kq, x10_7, rfl, HA, HJ7, HO_8, BK484, BK492, HB⟩ := hcut
    cases kq with
    | zero => exact absurd HA.out (by simp [wire_DecodeAsk.j0])
    | succ kj7 =>
     have H := HA.out
     clear HA
     simp only [wire_DecodeAsk.j0] at H
     replace H := Option.bind_eq_some_iff.mp H
     obtain ⟨⟨t498, t499, t500⟩, A370, H⟩ := H
     try dsimp only at H
     have A37 := Aside0.mk A370
     clear A370
     have HC38 := Aside0.mk H
     clear H
     go_upto_region 10 with (first | ((with_reducible refine gate_callee (f := 32) rfl ?_); refine goesL_ (some 50) rfl rfl Try.func32 (by kernel_rfl) rfl #[.string t486, .int .i64 x10_7] rfl Zz.g ?_; (with_reducible refine (varint_TakeAll.calls kj7 t486 x10_7 t498 t499 t500 _ A37.out).mono ?_); rintro e w39 ⟨v501, rfl, ho0, hb⟩; refine ⟨_, rfl, ?_⟩; replace HO_8 := Aside0.mk (Kd.R_below (Zz.r HO_8.out) hb); have HO502 := Aside0.mk (Kd.R_lower ho0 (below_size (Zz.i HB.out))); replace BK484 := Aside0.mk (Zz.bb BK484.out hb); replace BK492 := Aside0.mk (Zz.bb BK492.out hb); replace HB := Aside0.mk (below_step (Zz.i HB.out) hb); (try clear hb); (try clear ho0)))
     (try simp only [Act.put, List.setIfInBounds_toArray, List.set_cons_zero, List.set_cons_succ])
     go_cut [59] (fun v59 wc => ∃ (kq : Nat) (x59_37 : Bool), v59 = .bool x59_37 ∧ Aside0 (wire_DecodeAsk.j1 kq a0 t499 t493 x10_7 t498 x59_37 (rd t485 0) (rd t485 1) 0 0 0 0 0 0 0 0 0 0 false 0 0 0 0 = some (r1, r2, r3, r4, r5, r6, r7, r8, r9, r10, r11, r12, r13, r14, r15, r16, r17, r18, r19)) ∧ Aside0 (kq ≤ kj7) ∧ Aside0 (Kd.R (Kp.fp gb492) 91 wc w.heap.size (fun _ => True) (.slice Ao33 t493.length co33) t493) ∧ Aside0 (Kd.R (Kd.int .i64) 3 wc w.heap.size (fun _ => True) v501 t498) ∧ Aside0 (wc.heap[gb484]? = some (.cells #[.int .i64 0, .int .i64 0, .int .i64 0, .int .i64 0, .int .i64 0, .int .i64 0, .int .i64 0, .int .i64 0, .int .i64 0, .int .i64 0, .int .i64 0, .int .i64 0, .bool false, .int .i64 0, .int .i64 0, .int .i64 0, .int .i64 0, (.slice none 0 0)] 43 (0, 0))) ∧ Aside0 (wc.heap[gb492]? = some (.cells #[.int .i64 (rd t485 0), .int .i64 (rd t485 1), .int .i64 0, .int .i64 0, .int .i64 0, .int .i64 0, .int .i64 0, .int .i64 0, .int .i64 0, .int .i64 0, .int .i64 0, .int .i64 0, .bool false, .int .i64 0, .int .i64 0, .int .i64 0, .int .i64 0, (.slice none 0 0)] 43 (0, 0))) ∧ Aside0 (Below w.heap.size w wc))
     case first =>
      have H := HC38.out
      clear HC38
      by_cases c40 : t496 = true
      ·subst c40
       rw [if_pos rfl] at H
       have H' := Aside0.mk H
       clear H
       go_wp2
       go_meet
       case rel => exact ⟨_, ((t500 != 0)), Zz.q, H', ⟨by have := HJ7.out; first | omega | exact Nat.le_refl _⟩, ⟨Zz.r HO_8.out⟩, ⟨Zz.r HO502.out⟩, ⟨Zz.p BK484.out⟩, ⟨Zz.p BK492.out⟩, ⟨Zz.i HB.out⟩⟩
      replace c40 := Bool.eq_false_iff.mpr c40
      subst c40
      rw [if_neg Bool.false_ne_true] at H
      have H' := Aside0.mk H
      clear H
      go_wp2
      go_meet
      case rel => exact ⟨_, (true), Zz.q, H', ⟨by have := HJ7.out; first | omega | exact Nat.le_refl _⟩, ⟨Zz.r HO_8.out⟩, ⟨Zz.r HO502.out⟩, ⟨Zz.p BK484.out⟩, ⟨Zz.p BK492.out⟩, ⟨Zz.i HB.out⟩⟩
     clear HC38
     (try clear c1);(try clear p2);(try clear c3);(try clear c3b0);(try clear c3b1);(try clear c4);(try clear c4b0);(try clear c4b1);(try clear p4);(try clear q4);(try clear hx4);(try clear qi4);(try clear c5);(try clear c5b0);(try clear c5b1);(try clear p6);(try clear c18);(try clear c32);(try clear c34);(try clear c36);(try clear c38);(try clear c39);(try clear c40);(try clear hcz35);(try clear hfz35);(try clear hx490_0);(try clear hx491_0);(try clear p490);(try clear p491);(try clear q490);(try clear q491)
     obtain ⟨kq, x59_37, rfl, HA, HJ37, HO_8, HO_11, BK484, BK492, HB⟩ := hcut
     cases kq with
     | zero => exact absurd HA.out (by simp [wire_DecodeAsk.j1])
     | succ kj37 =>
      have H := HA.out
      clear HA
      simp only [wire_DecodeAsk.j1] at H
      by_cases c41 : x59_37 = true
      ·subst c41
       rw [if_pos rfl] at H
       simp only [Option.some.injEq, Prod.mk.injEq] at H
       obtain ⟨rfl, rfl, rfl, rfl, rfl, rfl, rfl, rfl, rfl, rfl, rfl, rfl, rfl, rfl, rfl, rfl, rfl, rfl, rfl⟩ := H
       have hnb42 := NB484_492.out
       have hnc42 := NB492_484.out
       have hcz43 := Zz.c18 BK484.out
       have hfz43 := blk_frozen BK484.out
       go_wp2
       refine bodyPost_ret (results_ct rfl _ _ gb484 43 #[.int .i64 0, .int .i64 0, .int .i64 0, .int .i64 0, .int .i64 0, .int .i64 0, .int .i64 0, .int .i64 0, .int .i64 0, .int .i64 0, .int .i64 0, .int .i64 0, .bool false, .int .i64 0, .int .i64 0, .int .i64 0, .int .i64 0, .slice none 0 0] (0, 0) _ rfl (by (with_reducible repeat (first | refine blk_drewN ?_ _ | refine blk_drew ?_ | refine blk_alloc ?_ _)); exact Zz.u18_0_17 BK484.out) Try.underlying43 rfl (by kernel_rfl)) rfl ?_
       exact ⟨_, Zr.e, by first | exact Kd.R_nil _ _ _ _ _ | exact Kd.N_nil _ _ _ _ _ | exact Kd.V_nil _ _ _ _ _ | exact Kd.Q_nil _ _ _ _ _ | exact Kd.S_nil _ _ _ _ _, Zz.i HB.out⟩
      replace c41 := Bool.eq_false_iff.mpr c41
      subst c41
      rw [if_neg Bool.false_ne_true] at H
      have H' := Aside0.mk H
      clear H
      go_wp2
      go_loopg [63] kj37 (fun kq v63 w' => ∃ (x63_3 : Int) (x485002_3 : Int) (x485003_3 : Int) (x485004_3 : Int) (x485005_3 : Int) (x485006_3 : Int) (x485007_3 : Int) (x485008_3 : Int) (x485009_3 : Int) (x485010_3 : Int) (x485011_3 : Int) (x493002_3 : Int) (x493003_3 : Int) (x493004_3 : Int) (x493005_3 : Int) (x493006_3 : Int) (x493007_3 : Int) (x493008_3 : Int) (x493009_3 : Int) (x493010_3 : Int) (x493011_3 : Int), v63 = .int .i64 x63_3 ∧ Aside0 (wire_DecodeAsk.l0 kq a0 t499 x10_7 t498 t493 (t493.length : Int) x63_3 (rd t485 0) (rd t485 1) x493002_3 x493003_3 x493004_3 x493005_3 x493006_3 x493007_3 x493008_3 x493009_3 x493010_3 x493011_3 false 0 0 0 0 = some (r1, r2, r3, r4, r5, r6, r7, r8, r9, r10, r11, r12, r13, r14, r15, r16, r17, r18, r19)) ∧ Aside0 (kq ≤ kj37) ∧ Aside0 (Kd.R (Kd.int .i64) 3 w' w.heap.size (fun _ => True) v501 t498) ∧ Aside0 (Kd.R (Kp.fp gb492) 91 w' w.heap.size (fun _ => True) (.slice Ao33 t493.length co33) t493) ∧ Aside0 (w'.heap[gb484]? = some (.cells #[.int .i64 0, .int .i64 0, .int .i64 x485002_3, .int .i64 x485003_3, .int .i64 x485004_3, .int .i64 x485005_3, .int .i64 x485006_3, .int .i64 x485007_3, .int .i64 x485008_3, .int .i64 x485009_3, .int .i64 x485010_3, .int .i64 x485011_3, .bool false, .int .i64 0, .int .i64 0, .int .i64 0, .int .i64 0, (.slice none 0 0)] 43 (0, 0))) ∧ Aside0 (w'.heap[gb492]? = some (.cells #[.int .i64 (rd t485 0), .int .i64 (rd t485 1), .int .i64 x493002_3, .int .i64 x493003_3, .int .i64 x493004_3, .int .i64 x493005_3, .int .i64 x493006_3, .int .i64 x493007_3, .int .i64 x493008_3, .int .i64 x493009_3, .int .i64 x493010_3, .int .i64 x493011_3, .bool false, .int .i64 0, .int .i64 0, .int .i64 0, .int .i64 0, (.slice none 0 0)] 43 (0, 0))) ∧ Aside0 (Below w.heap.size w w'))
      case atStart => exact ⟨(0), (0), (0), (0), (0), (0), (0), (0), (0), (0), (0), (0), (0), (0), (0), (0), (0), (0), (0), (0), (0), Zz.q, H', ⟨Nat.le_refl _⟩, ⟨Zz.r HO_11.out⟩, ⟨Zz.r HO_8.out⟩, ⟨Zz.p BK484.out⟩, ⟨Zz.p BK492.out⟩, ⟨Zz.i HB.out⟩⟩
      case round =>
       clear H'
       (try clear c1);(try clear p2);(try clear c3);(try clear c3b0);(try clear c3b1);(try clear c4);(try clear c4b0);(try clear c4b1);(try clear p4);(try clear q4);(try clear hx4);(try clear qi4);(try clear c5);(try clear c5b0);(try clear c5b1);(try clear p6);(try clear c18);(try clear c32);(try clear c34);(try clear c36);(try clear c38);(try clear c39);(try clear c40);(try clear c41);(try clear c42);(try clear hcz35);(try clear hcz43);(try clear hfz35);(try clear hfz43);(try clear hx490_0);(try clear hx491_0);(try clear p490);(try clear p491);(try clear q490);(try clear q491)
       obtain ⟨x63_3, x485002_3, x485003_3, x485004_3, x485005_3, x485006_3, x485007_3, x485008_3, x485009_3, x485010_3, x485011_3, x493002_3, x493003_3, x493004_3, x493005_3, x493006_3, x493007_3, x493008_3, x493009_3, x493010_3, x493011_3, rfl, HA, HK3, HO_11, HO_61, BK484, BK492, HB⟩ := hrel
       cases gk with
       | zero => exact absurd HA.out (by simp [wire_DecodeAsk.l0])
       | succ k3 =>
        have H := HA.out
        clear HA
        simp only [wire_DecodeAsk.l0] at H
        by_cases c44 : x63_3 < (t493.length : Int)
        ·rw [if_pos c44] at H
         have c44b0 : decide (x63_3 < (t493.length : Int)) = true := decide_eq_true c44
         clear c44
         by_cases c45 : 0 ≤ x63_3
         ·rw [if_pos c45] at H
          have c45b0 : decide (0 ≤ x63_3) = true := decide_eq_true c45
          clear c45
          by_cases c46 : x63_3 < (t493.length : Int)
          ·rw [if_pos c46] at H
           have c46b0 : decide (x63_3 < (t493.length : Int)) = true := decide_eq_true c46
           clear c46
           by_cases c47 : x63_3 < (t498.length : Int)
           ·rw [if_pos c47] at H
            have c47b0 : decide (x63_3 < (t498.length : Int)) = true := decide_eq_true c47
            clear c47
            by_cases c48 : 2 ≤ (rd t493 x63_3)
            ·rw [if_pos c48] at H
             have c48b0 : decide (2 ≤ (rd t493 x63_3)) = true := decide_eq_true c48
             clear c48
             by_cases c49 : (rd t493 x63_3) ≤ 11
             ·rw [if_pos c49] at H
              have c49b0 : decide ((rd t493 x63_3) ≤ 11) = true := decide_eq_true c49
              clear c49
              have H' := Aside0.mk H
              clear H
              have p503 : 0 ≤ (x63_3 : Int) := of_decide_eq_true (by first | (with_reducible assumption) | assumption)
              have q503 : x63_3 < (t493.length : Int) := of_decide_eq_true (by first | (with_reducible assumption) | assumption)
              obtain ⟨ad503, e503, hx503_0⟩ := Kp.at_fp (Kd.R_reads' HO_61.out).2.2 x63_3 p503 q503
              cases e503
              replace p503 := eq_true p503
              replace q503 := eq_true q503
              obtain ⟨Ao50, co50, eo50⟩ := Kd.R_slice HO_11.out
              subst eo50
              have p504 : 0 ≤ (x63_3 : Int) := of_decide_eq_true (by first | (with_reducible assumption) | assumption)
              have q504 : x63_3 < (t498.length : Int) := of_decide_eq_true (by first | (with_reducible assumption) | assumption)
              obtain ⟨ad504, e504, hx504_0⟩ := Kd.at_int (Kd.R_reads' HO_11.out).2.2 x63_3 p504 q504
              cases e504
              replace p504 := eq_true p504
              replace q504 := eq_true q504
              have hnb51 := NB492_484.out
              have hnc51 := NB484_492.out
              have hcz52 := Zz.c18 BK492.out
              have hfz52 := blk_frozen BK492.out
              have hfp53 := Kp.fget_cell (o := (rd t493 x63_3)) BK492.out (of_decide_eq_true (by first | (with_reducible assumption) | assumption)) (of_decide_eq_true (by first | (with_reducible assumption) | assumption))
              have hffp53 := blk_frozen BK492.out ((rd t493 x63_3) : Int).toNat
              go_wp2_with (first | ((with_reducible refine gate_store (t := 3) (p := 73) rfl ?_); refine store_event (t := 3) (p := 73) (v := ?vo_w54) (w1 := (wr.setCell ⟨gb492, ((rd t493 x63_3) : Int).toNat, none⟩ (.int .i64 (rd t498 x63_3)))) ?hg ?ho ?hn ?hr ?_; (case ho => rfl); (case hg => rfl); (case hn => rfl); (case hr => first | (go_simp; done) | (go_simp; rfl)); intro w54 hw; have n0_ : Aside0 (Kd.R (Kd.int .i64) 3 w54 w.heap.size (fun _ => True) (.slice (some ad504) t498.length co50) t498) := ⟨(by rw [hw]; exact (by (with_reducible repeat (first | apply Kd.R_alloc | apply Kd.R_drewN | apply Kd.R_drew)); exact Kd.R_mono (Kd.R_far (p := ⟨gb492, ((rd t493 x63_3) : Int).toNat, none⟩) (Kd.R_types HO_11.out BK492.out (by first | decide | exact Kp.fp_ne (by decide))) (fun _ hk => hk.2) (.int .i64 (rd t498 x63_3))) (fun _ hk => trivial)))⟩; have n1_ : Aside0 (Kd.R (Kp.fp gb492) 91 w54 w.heap.size (fun _ => True) (.slice (some ad503) t493.length co33) t493) := ⟨(by rw [hw]; exact (by (with_reducible repeat (first | apply Kd.R_alloc | apply Kd.R_drewN | apply Kd.R_drew)); exact Kd.R_mono (Kd.R_far (p := ⟨gb492, ((rd t493 x63_3) : Int).toNat, none⟩) (Kd.R_types HO_61.out BK492.out (by first | decide | exact Kp.fp_ne (by decide))) (fun _ hk => hk.2) (.int .i64 (rd t498 x63_3))) (fun _ hk => trivial)))⟩; have n2_ : Aside0 (w54.heap[gb484]? = some (.cells #[.int .i64 0, .int .i64 0, .int .i64 x485002_3, .int .i64 x485003_3, .int .i64 x485004_3, .int .i64 x485005_3, .int .i64 x485006_3, .int .i64 x485007_3, .int .i64 x485008_3, .int .i64 x485009_3, .int .i64 x485010_3, .int .i64 x485011_3, .bool false, .int .i64 0, .int .i64 0, .int .i64 0, .int .i64 0, .slice none 0 0] 43 (0, 0))) := ⟨(by rw [hw]; exact (Zz.p1 BK484.out NB484_492.out))⟩; have n3_ : Aside0 (w54.heap[gb492]? = some (.cells #[.int .i64 (rd t485 0), .int .i64 (rd t485 1), .int .i64 (Kp.fset (rd t493 x63_3) 2 (rd t498 x63_3) x493002_3), .int .i64 (Kp.fset (rd t493 x63_3) 3 (rd t498 x63_3) x493003_3), .int .i64 (Kp.fset (rd t493 x63_3) 4 (rd t498 x63_3) x493004_3), .int .i64 (Kp.fset (rd t493 x63_3) 5 (rd t498 x63_3) x493005_3), .int .i64 (Kp.fset (rd t493 x63_3) 6 (rd t498 x63_3) x493006_3), .int .i64 (Kp.fset (rd t493 x63_3) 7 (rd t498 x63_3) x493007_3), .int .i64 (Kp.fset (rd t493 x63_3) 8 (rd t498 x63_3) x493008_3), .int .i64 (Kp.fset (rd t493 x63_3) 9 (rd t498 x63_3) x493009_3), .int .i64 (Kp.fset (rd t493 x63_3) 10 (rd t498 x63_3) x493010_3), .int .i64 (Kp.fset (rd t493 x63_3) 11 (rd t498 x63_3) x493011_3), .bool false, .int .i64 0, .int .i64 0, .int .i64 0, .int .i64 0, .slice none 0 0] 43 (0, 0))) := ⟨(by rw [hw]; exact (by refine Kp.fset_blk ?_ (of_decide_eq_true (by first | (with_reducible assumption) | assumption)) (of_decide_eq_true (by first | (with_reducible assumption) | assumption)) _; (with_reducible repeat (first | refine blk_drewN ?_ _ | refine blk_drew ?_ | refine blk_alloc ?_ _)); exact BK492.out))⟩; have n4_ : Aside0 (Below w.heap.size w w54) := ⟨(by rw [hw]; exact (Zz.i HB.out))⟩; clear hw; clear HO_11; clear HO_61; clear BK484; clear BK492; clear HB; have HO_11 := n0_; have HO_61 := n1_; have BK484 := n2_; have BK492 := n3_; have HB := n4_; clear n0_ n1_ n2_ n3_ n4_))
              go_roundg k3
              case measure => have := HJ7.out; have := HJ37.out; have := HK3.out; omega
              case rel => exact ⟨(wrap64 (x63_3 + 1)), (x485002_3), (x485003_3), (x485004_3), (x485005_3), (x485006_3), (x485007_3), (x485008_3), (x485009_3), (x485010_3), (x485011_3), (Kp.fset (rd t493 x63_3) 2 (rd t498 x63_3) x493002_3), (Kp.fset (rd t493 x63_3) 3 (rd t498 x63_3) x493003_3), (Kp.fset (rd t493 x63_3) 4 (rd t498 x63_3) x493004_3), (Kp.fset (rd t493 x63_3) 5 (rd t498 x63_3) x493005_3), (Kp.fset (rd t493 x63_3) 6 (rd t498 x63_3) x493006_3), (Kp.fset (rd t493 x63_3) 7 (rd t498 x63_3) x493007_3), (Kp.fset (rd t493 x63_3) 8 (rd t498 x63_3) x493008_3), (Kp.fset (rd t493 x63_3) 9 (rd t498 x63_3) x493009_3), (Kp.fset (rd t493 x63_3) 10 (rd t498 x63_3) x493010_3), (Kp.fset (rd t493 x63_3) 11 (rd t498 x63_3) x493011_3), Zz.q, H', ⟨by have := HJ7.out; have := HJ37.out; have := HK3.out; omega⟩, ⟨Zz.r HO_11.out⟩, ⟨Zz.r HO_61.out⟩, ⟨Zz.p BK484.out⟩, ⟨Zz.p BK492.out⟩, ⟨Zz.i HB.out⟩⟩
             rw [if_neg c49] at H
             exact absurd H (by simp)
            rw [if_neg c48] at H
            exact absurd H (by simp)
           rw [if_neg c47] at H
           exact absurd H (by simp)
          rw [if_neg c46] at H
          exact absurd H (by simp)
         rw [if_neg c45] at H
         exact absurd H (by simp)
        rw [if_neg c44] at H
        have c44b0 : decide (x63_3 < (t493.length : Int)) = false := decide_eq_false c44
        clear c44
        replace H := Option.bind_eq_some_iff.mp H
        obtain ⟨t505, A550, H⟩ := H
        try dsimp only at H
        have A55 := Aside0.mk A550
        clear A550
        have HC56 := Aside0.mk H
        clear H
        have hnb57 := NB492_484.out
        have hnc57 := NB484_492.out
        have hcz58 := Zz.c18 BK492.out
        have hfz58 := blk_frozen BK492.out
        go_upto_if 77 with (first | ((with_reducible refine gate_callee (f := 39) rfl ?_); refine goesL_ (some 77) rfl rfl Try.func39 (by kernel_rfl) rfl #[.int .i64 (rd t485 0)] rfl Zz.g ?_; (with_reducible refine (wire_flagged.calls (rd t485 0) t505 _ A55.out).mono ?_); rintro e w' ⟨rfl, ⟨nd, rfl⟩⟩; refine ⟨_, rfl, ?_⟩))
        (try simp only [Act.put, List.setIfInBounds_toArray, List.set_cons_zero, List.set_cons_succ])
        go_cut [] (fun wc => ∃ (kq : Nat) (x493012_55 : Bool), Aside0 (wire_DecodeAsk.j3 kq a0 t499 (rd t485 0) (rd t485 1) x493002_3 x493003_3 x493004_3 x493005_3 x493006_3 x493007_3 x493008_3 x493009_3 x493010_3 x493011_3 x493012_55 0 0 0 0 = some (r1, r2, r3, r4, r5, r6, r7, r8, r9, r10, r11, r12, r13, r14, r15, r16, r17, r18, r19)) ∧ Aside0 (kq ≤ k3) ∧ Aside0 (wc.heap[gb484]? = some (.cells #[.int .i64 0, .int .i64 0, .int .i64 x485002_3, .int .i64 x485003_3, .int .i64 x485004_3, .int .i64 x485005_3, .int .i64 x485006_3, .int .i64 x485007_3, .int .i64 x485008_3, .int .i64 x485009_3, .int .i64 x485010_3, .int .i64 x485011_3, .bool false, .int .i64 0, .int .i64 0, .int .i64 0, .int .i64 0, (.slice none 0 0)] 43 (0, 0))) ∧ Aside0 (wc.heap[gb492]? = some (.cells #[.int .i64 (rd t485 0), .int .i64 (rd t485 1), .int .i64 x493002_3, .int .i64 x493003_3, .int .i64 x493004_3, .int .i64 x493005_3, .int .i64 x493006_3, .int .i64 x493007_3, .int .i64 x493008_3, .int .i64 x493009_3, .int .i64 x493010_3, .int .i64 x493011_3, .bool x493012_55, .int .i64 0, .int .i64 0, .int .i64 0, .int .i64 0, (.slice none 0 0)] 43 (0, 0))) ∧ Aside0 (Below w.heap.size w wc))
        case first =>
         have H := HC56.out
         clear HC56
         by_cases c59 : t505 = true
         ·subst c59
          rw [if_pos rfl] at H
          obtain ⟨ji60, hji60⟩ : ∃ j_ : Int, (wrap64 (x10_7 - 1)) = j_ := ⟨_, rfl⟩
          replace H : (if 0 ≤ (ji60) then (if (ji60) < (t498.length : Int) then (wire_DecodeAsk.j3 k3 a0 t499 (rd t485 0) (rd t485 1) x493002_3 x493003_3 x493004_3 x493005_3 x493006_3 x493007_3 x493008_3 x493009_3 x493010_3 x493011_3 ((rd t498 (ji60)) == 1) 0 0 0 0) else (none)) else (none)) = some (r1, r2, r3, r4, r5, r6, r7, r8, r9, r10, r11, r12, r13, r14, r15, r16, r17, r18, r19) := by first | (rw [hji60] at H; exact H) | (simp only [hji60] at H ⊢; exact H)
          have hji60w : (IntKind.i64.wrap (x10_7 - 1)) = ji60 := (i64_w _).trans hji60
          by_cases c61 : 0 ≤ (ji60)
          ·rw [if_pos c61] at H
           have c61b0 : decide (0 ≤ (ji60)) = true := decide_eq_true c61
           clear c61
           (first | rw [c61b0] | rw [c61b9] | (simp only [i64_w, i32_w]; rw [c61b0]) | skip)
           by_cases c62 : (ji60) < (t498.length : Int)
           ·rw [if_pos c62] at H
            have c62b0 : decide ((ji60) < (t498.length : Int)) = true := decide_eq_true c62
            clear c62
            have H' := Aside0.mk H
            clear H
            obtain ⟨Ao63, co63, eo63⟩ := Kd.R_slice HO_11.out
            subst eo63
            have p506 : 0 ≤ ((ji60) : Int) := of_decide_eq_true (by first | (with_reducible assumption) | assumption)
            have q506 : (ji60) < (t498.length : Int) := of_decide_eq_true (by first | (with_reducible assumption) | assumption)
            obtain ⟨ad506, e506, hx506_0⟩ := Kd.at_int (Kd.R_reads' HO_11.out).2.2 (ji60) p506 q506
            cases e506
            replace p506 := eq_true p506
            replace q506 := eq_true q506
            have hnb64 := NB492_484.out
            have hnc64 := NB484_492.out
            have hcz65 := Zz.c18 BK492.out
            have hfz65 := blk_frozen BK492.out
            go_wp2
            go_meet
            case rel => exact ⟨_, (((rd t498 (ji60)) == 1)), H', ⟨by have := HJ7.out; have := HJ37.out; have := HK3.out; first | omega | exact Nat.le_refl _⟩, ⟨Zz.p1 BK484.out NB484_492.out⟩, ⟨by (with_reducible repeat (first | refine blk_drewN ?_ _ | refine blk_drew ?_ | refine blk_alloc ?_ _)); refine blk_put (cs := #[.int .i64 (rd t485 0), .int .i64 (rd t485 1), .int .i64 x493002_3, .int .i64 x493003_3, .int .i64 x493004_3, .int .i64 x493005_3, .int .i64 x493006_3, .int .i64 x493007_3, .int .i64 x493008_3, .int .i64 x493009_3, .int .i64 x493010_3, .int .i64 x493011_3, .bool false, .int .i64 0, .int .i64 0, .int .i64 0, .int .i64 0, .slice none 0 0]) ?_ 12 _ rfl; (with_reducible repeat (first | refine blk_drewN ?_ _ | refine blk_drew ?_ | refine blk_alloc ?_ _)); exact BK492.out⟩, ⟨Zz.i HB.out⟩⟩
           rw [if_neg c62] at H
           exact absurd H (by simp)
          rw [if_neg c61] at H
          exact absurd H (by simp)
         replace c59 := Bool.eq_false_iff.mpr c59
         subst c59
         rw [if_neg Bool.false_ne_true] at H
         have H' := Aside0.mk H
         clear H
         go_wp2
         go_meet
         case rel => exact ⟨_, (false), H', ⟨by have := HJ7.out; have := HJ37.out; have := HK3.out; first | omega | exact Nat.le_refl _⟩, ⟨Zz.p BK484.out⟩, ⟨Zz.p BK492.out⟩, ⟨Zz.i HB.out⟩⟩
        clear HC56
        (try clear c1);(try clear p2);(try clear c3);(try clear c3b0);(try clear c3b1);(try clear c4);(try clear c4b0);(try clear c4b1);(try clear p4);(try clear q4);(try clear hx4);(try clear qi4);(try clear c5);(try clear c5b0);(try clear c5b1);(try clear p5);(try clear q5);(try clear hx5);(try clear c6);(try clear p6);(try clear c18);(try clear c32);(try clear c34);(try clear c36);(try clear c38);(try clear c39);(try clear c40);(try clear c41);(try clear c42);(try clear c44);(try clear c44b0);(try clear c45);(try clear c45b0);(try clear c46);(try clear c46b0);(try clear c47);(try clear c47b0);(try clear c48);(try clear c48b0);(try clear c49);(try clear c49b0);(try clear p49);(try clear q49);(try clear hx49);(try clear p50);(try clear q50);(try clear hx50);(try clear c51);(try clear p53);(try clear c57);(try clear c59);(try clear c61);(try clear c61b0);(try clear c62);(try clear c62b0);(try clear c64);(try clear p64);(try clear hcz35);(try clear hcz43);(try clear hcz52);(try clear hcz58);(try clear hcz65);(try clear hfz35);(try clear hfz43);(try clear hfz52);(try clear hfz58);(try clear hfz65);(try clear hx490_0);(try clear hx491_0);(try clear hx503_0);(try clear hx504_0);(try clear hx506_0);(try clear p490);(try clear p491);(try clear p503);(try clear p504);(try clear p506);(try clear q490);(try clear q491);(try clear q503);(try clear q504);(try clear q506)
        obtain ⟨kq, x493012_55, HA, HJ55, BK484, BK492, HB⟩ := hcut
        cases kq with
        | zero => exact absurd HA.out (by simp [wire_DecodeAsk.j3])
        | succ kj55 =>
         have H := HA.out
         clear HA
         simp only [wire_DecodeAsk.j3] at H
         by_cases c66 : (rd t485 0) = 3
         ·rw [if_pos c66] at H
          obtain ⟨c66b0, c66b1⟩ := Zr.y c66
          clear c66
          replace H := Option.bind_eq_some_iff.mp H
          obtain ⟨⟨t507, t508, t509⟩, A670, H⟩ := H
          try dsimp only at H
          have A67 := Aside0.mk A670
          clear A670
          replace H := Option.bind_eq_some_iff.mp H
          obtain ⟨⟨t510, t511, t512, t513, t514, t517⟩, A680, H⟩ := H
          try dsimp only at H
          have A68 := Aside0.mk A680
          clear A680
          replace H := Option.bind_eq_some_iff.mp H
          obtain ⟨⟨t518, t519⟩, A690, H⟩ := H
          try dsimp only at H
          have A69 := Aside0.mk A690
          clear A690
          by_cases c70 : t519 = 0
          ·rw [if_pos c70] at H
           obtain ⟨c70b0, c70b1⟩ := Zr.y c70
           clear c70
           by_cases c71 : t518.toList = a0.toList
           ·rw [if_pos c71] at H
            obtain ⟨c71b0, c71b1⟩ := Zr.y c71
            clear c71
            simp only [Option.some.injEq, Prod.mk.injEq] at H
            obtain ⟨rfl, rfl, rfl, rfl, rfl, rfl, rfl, rfl, rfl, rfl, rfl, rfl, rfl, rfl, rfl, rfl, rfl, rfl, rfl⟩ := H
            have hnb72 := NB492_484.out
            have hnc72 := NB484_492.out
            have hcz73 := Zz.c18 BK492.out
            have hfz73 := blk_frozen BK492.out
            go_wp2_with (first | ((with_reducible refine gate_callee (f := 48) rfl ?_); refine goesL_ (some 92) rfl rfl Try.func48 (by kernel_rfl) rfl #[.string t499, .int .i64 (t499.size : Int)] rfl Zz.g ?_; (with_reducible refine (varint_TakeText.calls t499 (t499.size : Int) t507 t508 t509 _ A67.out).mono ?_); rintro e w' ⟨rfl, ⟨nd, rfl⟩⟩; refine ⟨_, rfl, ?_⟩; (try (rw [drewN_self wc]; generalize hq_ : World.drewN wc _ = wc; have n0_ : Aside0 (wc.heap[gb484]? = some (.cells #[.int .i64 0, .int .i64 0, .int .i64 x485002_3, .int .i64 x485003_3, .int .i64 x485004_3, .int .i64 x485005_3, .int .i64 x485006_3, .int .i64 x485007_3, .int .i64 x485008_3, .int .i64 x485009_3, .int .i64 x485010_3, .int .i64 x485011_3, .bool false, .int .i64 0, .int .i64 0, .int .i64 0, .int .i64 0, .slice none 0 0] 43 (0, 0))) := ⟨by rw [← hq_]; exact (Zz.p BK484.out)⟩; have n1_ : Aside0 (wc.heap[gb492]? = some (.cells #[.int .i64 (rd t485 0), .int .i64 (rd t485 1), .int .i64 x493002_3, .int .i64 x493003_3, .int .i64 x493004_3, .int .i64 x493005_3, .int .i64 x493006_3, .int .i64 x493007_3, .int .i64 x493008_3, .int .i64 x493009_3, .int .i64 x493010_3, .int .i64 x493011_3, .bool x493012_55, .int .i64 0, .int .i64 0, .int .i64 0, .int .i64 0, .slice none 0 0] 43 (0, 0))) := ⟨by rw [← hq_]; exact (Zz.p BK492.out)⟩; have n2_ := Aside0.mk (Zz.iq hq_ HB.out); clear BK484 BK492 HB hq_; have BK484 := n0_; have BK492 := n1_; have HB := n2_; clear n0_ n1_ n2_))) | ((with_reducible refine gate_callee (f := 49) rfl ?_); refine goesL_ (some 98) rfl rfl Try.func49 (by kernel_rfl) rfl #[.string t507] rfl Zz.g ?_; (with_reducible refine (batch_Decode.calls kj55 t507 t510 t511 t512 t513 t514 t517 _ A68.out).mono ?_); rintro e w74 ⟨v515, rfl, ho0, hb⟩; refine ⟨_, rfl, ?_⟩; have HO516 := Aside0.mk (Kd.R_lower ho0 (below_size (Zz.i HB.out))); replace BK484 := Aside0.mk (Zz.bb BK484.out hb); replace BK492 := Aside0.mk (Zz.bb BK492.out hb); replace HB := Aside0.mk (below_step (Zz.i HB.out) hb); (try clear hb); (try clear ho0); have hcz75 := Zz.c18 BK492.out; have hfz75 := blk_frozen BK492.out; obtain ⟨Ao76, co76, eo76⟩ := Kd.R_slice HO516.out; subst eo76; have hld := Kp.LDAsk_blk (Kp.put5 BK492.out (.int .i64 t510) (.int .i64 t511) (.int .i64 t512) (.int .i64 t513) (.slice Ao76 t514.length co76))) | ((with_reducible refine gate_callee (f := 16) rfl ?_); refine goesL_ (some 104) rfl rfl Try.func16 (by kernel_rfl) rfl #[.agg #[.int .i64 (rd t485 0), .int .i64 (rd t485 1), .int .i64 x493002_3, .int .i64 x493003_3, .int .i64 x493004_3, .int .i64 x493005_3, .int .i64 x493006_3, .int .i64 x493007_3, .int .i64 x493008_3, .int .i64 x493009_3, .int .i64 x493010_3, .int .i64 x493011_3, .bool x493012_55, .int .i64 t510, .int .i64 t511, .int .i64 t512, .int .i64 t513, .slice Ao76 t514.length co76]] rfl Zz.g ?_; (with_reducible refine (wire_EncodeAsk.calls kj55 (rd t485 0) (rd t485 1) x493002_3 x493003_3 x493004_3 x493005_3 x493006_3 x493007_3 x493008_3 x493009_3 x493010_3 x493011_3 x493012_55 t510 t511 t512 t513 _ _ t514 t518 t519 _ ?side1 ?side2 A69.out).mono ?_); (case side1 => refine (Kd.R_reads' (e := 57) (base := w.heap.size) (ok := fun k_ => True) (n := t514.length) (c := co76) ?_).2.2; exact (by (with_reducible repeat (first | apply Kd.R_alloc | apply Kd.R_drewN | apply Kd.R_drew)); exact (Kd.R_mono (Zz.f5 (Kd.R_types HO516.out BK492.out (by first | decide | exact Kp.fp_ne (by decide))) (fun _ hk => hk.2)) (fun _ h_ => h_.1)))); (case side2 => exact (Kd.R_reads' HO516.out).2.1); rintro e w77 ⟨rfl, hb⟩; refine ⟨_, rfl, ?_⟩; have n0_ := Aside0.mk (Kd.R_below (by (with_reducible repeat (first | apply Kd.R_alloc | apply Kd.R_drewN | apply Kd.R_drew)); exact (Kd.R_mono (Zz.f5 (Kd.R_types HO516.out BK492.out (by first | decide | exact Kp.fp_ne (by decide))) (fun _ hk => hk.2)) (fun _ h_ => h_.1))) hb); have n1_ := Aside0.mk (blk_below (g := gb484) (o := .cells #[.int .i64 0, .int .i64 0, .int .i64 x485002_3, .int .i64 x485003_3, .int .i64 x485004_3, .int .i64 x485005_3, .int .i64 x485006_3, .int .i64 x485007_3, .int .i64 x485008_3, .int .i64 x485009_3, .int .i64 x485010_3, .int .i64 x485011_3, .bool false, .int .i64 0, .int .i64 0, .int .i64 0, .int .i64 0, .slice none 0 0] 43 (0, 0)) (by exact Zz.q5 BK484.out NB484_492.out) hb); have n2_ := Aside0.mk (blk_below (g := gb492) (o := .cells #[.int .i64 (rd t485 0), .int .i64 (rd t485 1), .int .i64 x493002_3, .int .i64 x493003_3, .int .i64 x493004_3, .int .i64 x493005_3, .int .i64 x493006_3, .int .i64 x493007_3, .int .i64 x493008_3, .int .i64 x493009_3, .int .i64 x493010_3, .int .i64 x493011_3, .bool x493012_55, .int .i64 t510, .int .i64 t511, .int .i64 t512, .int .i64 t513, .slice Ao76 t514.length co76] 43 (0, 0)) (by (with_reducible repeat (first | refine blk_drewN ?_ _ | refine blk_drew ?_ | refine blk_alloc ?_ _)); exact Zz.u18_13_17 BK492.out) hb); have n3_ := Aside0.mk (below_step (Zz.i HB.out) hb); clear HO516; clear BK484; clear BK492; clear HB; have HO516 := n0_; have BK484 := n1_; have BK492 := n2_; have HB := n3_; clear n0_ n1_ n2_ n3_; (try clear hb); (try clear hk); have hcz78 := Zz.c18 BK492.out; have hfz78 := blk_frozen BK492.out; have hcz79 := Zz.c18 BK484.out; have hfz79 := blk_frozen BK484.out))
            refine bodyPost_ret (results_ct rfl _ _ gb484 43 #[.int .i64 (rd t485 0), .int .i64 (rd t485 1), .int .i64 x493002_3, .int .i64 x493003_3, .int .i64 x493004_3, .int .i64 x493005_3, .int .i64 x493006_3, .int .i64 x493007_3, .int .i64 x493008_3, .int .i64 x493009_3, .int .i64 x493010_3, .int .i64 x493011_3, .bool x493012_55, .int .i64 t510, .int .i64 t511, .int .i64 t512, .int .i64 t513, .slice Ao76 t514.length co76] (0, 0) _ rfl (by (with_reducible repeat (first | refine blk_drewN ?_ _ | refine blk_drew ?_ | refine blk_alloc ?_ _)); exact Zz.u18_0_17 BK484.out) Try.underlying43 rfl (by kernel_rfl)) rfl ?_
            exact ⟨_, Zr.e, by (with_reducible repeat (first | apply Kd.R_alloc | apply Kd.R_drewN | apply Kd.R_drew)); exact Kd.R_mono (Zz.f18 (Kd.R_types HO516.out BK484.out (by first | decide | exact Kp.fp_ne (by decide))) (fun _ hk => hk.2)) (fun _ hk => trivial), Zz.i HB.out⟩
           rw [if_neg c71] at H
           obtain ⟨c71b0, c71b1⟩ := Zr.n c71
           simp only [Option.some.injEq, Prod.mk.injEq] at H
           obtain ⟨rfl, rfl, rfl, rfl, rfl, rfl, rfl, rfl, rfl, rfl, rfl, rfl, rfl, rfl, rfl, rfl, rfl, rfl, rfl⟩ := H
           have hnb80 := NB492_484.out
           have hnc80 := NB484_492.out
           have hcz81 := Zz.c18 BK492.out
           have hfz81 := blk_frozen BK492.out
           go_wp2_with (first | ((with_reducible refine gate_callee (f := 48) rfl ?_); refine goesL_ (some 92) rfl rfl Try.func48 (by kernel_rfl) rfl #[.string t499, .int .i64 (t499.size : Int)] rfl Zz.g ?_; (with_reducible refine (varint_TakeText.calls t499 (t499.size : Int) t507 t508 t509 _ A67.out).mono ?_); rintro e w' ⟨rfl, ⟨nd, rfl⟩⟩; refine ⟨_, rfl, ?_⟩; (try (rw [drewN_self wc]; generalize hq_ : World.drewN wc _ = wc; have n0_ : Aside0 (wc.heap[gb484]? = some (.cells #[.int .i64 0, .int .i64 0, .int .i64 x485002_3, .int .i64 x485003_3, .int .i64 x485004_3, .int .i64 x485005_3, .int .i64 x485006_3, .int .i64 x485007_3, .int .i64 x485008_3, .int .i64 x485009_3, .int .i64 x485010_3, .int .i64 x485011_3, .bool false, .int .i64 0, .int .i64 0, .int .i64 0, .int .i64 0, .slice none 0 0] 43 (0, 0))) := ⟨by rw [← hq_]; exact (Zz.p BK484.out)⟩; have n1_ : Aside0 (wc.heap[gb492]? = some (.cells #[.int .i64 (rd t485 0), .int .i64 (rd t485 1), .int .i64 x493002_3, .int .i64 x493003_3, .int .i64 x493004_3, .int .i64 x493005_3, .int .i64 x493006_3, .int .i64 x493007_3, .int .i64 x493008_3, .int .i64 x493009_3, .int .i64 x493010_3, .int .i64 x493011_3, .bool x493012_55, .int .i64 0, .int .i64 0, .int .i64 0, .int .i64 0, .slice none 0 0] 43 (0, 0))) := ⟨by rw [← hq_]; exact (Zz.p BK492.out)⟩; have n2_ := Aside0.mk (Zz.iq hq_ HB.out); clear BK484 BK492 HB hq_; have BK484 := n0_; have BK492 := n1_; have HB := n2_; clear n0_ n1_ n2_))) | ((with_reducible refine gate_callee (f := 49) rfl ?_); refine goesL_ (some 98) rfl rfl Try.func49 (by kernel_rfl) rfl #[.string t507] rfl Zz.g ?_; (with_reducible refine (batch_Decode.calls kj55 t507 t510 t511 t512 t513 t514 t517 _ A68.out).mono ?_); rintro e w82 ⟨v515, rfl, ho0, hb⟩; refine ⟨_, rfl, ?_⟩; have HO516 := Aside0.mk (Kd.R_lower ho0 (below_size (Zz.i HB.out))); replace BK484 := Aside0.mk (Zz.bb BK484.out hb); replace BK492 := Aside0.mk (Zz.bb BK492.out hb); replace HB := Aside0.mk (below_step (Zz.i HB.out) hb); (try clear hb); (try clear ho0); have hcz83 := Zz.c18 BK492.out; have hfz83 := blk_frozen BK492.out; obtain ⟨Ao84, co84, eo84⟩ := Kd.R_slice HO516.out; subst eo84; have hld := Kp.LDAsk_blk (Kp.put5 BK492.out (.int .i64 t510) (.int .i64 t511) (.int .i64 t512) (.int .i64 t513) (.slice Ao84 t514.length co84))) | ((with_reducible refine gate_callee (f := 16) rfl ?_); refine goesL_ (some 104) rfl rfl Try.func16 (by kernel_rfl) rfl #[.agg #[.int .i64 (rd t485 0), .int .i64 (rd t485 1), .int .i64 x493002_3, .int .i64 x493003_3, .int .i64 x493004_3, .int .i64 x493005_3, .int .i64 x493006_3, .int .i64 x493007_3, .int .i64 x493008_3, .int .i64 x493009_3, .int .i64 x493010_3, .int .i64 x493011_3, .bool x493012_55, .int .i64 t510, .int .i64 t511, .int .i64 t512, .int .i64 t513, .slice Ao84 t514.length co84]] rfl Zz.g ?_; (with_reducible refine (wire_EncodeAsk.calls kj55 (rd t485 0) (rd t485 1) x493002_3 x493003_3 x493004_3 x493005_3 x493006_3 x493007_3 x493008_3 x493009_3 x493010_3 x493011_3 x493012_55 t510 t511 t512 t513 _ _ t514 t518 t519 _ ?side1 ?side2 A69.out).mono ?_); (case side1 => refine (Kd.R_reads' (e := 57) (base := w.heap.size) (ok := fun k_ => True) (n := t514.length) (c := co84) ?_).2.2; exact (by (with_reducible repeat (first | apply Kd.R_alloc | apply Kd.R_drewN | apply Kd.R_drew)); exact (Kd.R_mono (Zz.f5 (Kd.R_types HO516.out BK492.out (by first | decide | exact Kp.fp_ne (by decide))) (fun _ hk => hk.2)) (fun _ h_ => h_.1)))); (case side2 => exact (Kd.R_reads' HO516.out).2.1); rintro e w85 ⟨rfl, hb⟩; refine ⟨_, rfl, ?_⟩; have n0_ := Aside0.mk (Kd.R_below (by (with_reducible repeat (first | apply Kd.R_alloc | apply Kd.R_drewN | apply Kd.R_drew)); exact (Kd.R_mono (Zz.f5 (Kd.R_types HO516.out BK492.out (by first | decide | exact Kp.fp_ne (by decide))) (fun _ hk => hk.2)) (fun _ h_ => h_.1))) hb); have n1_ := Aside0.mk (blk_below (g := gb484) (o := .cells #[.int .i64 0, .int .i64 0, .int .i64 x485002_3, .int .i64 x485003_3, .int .i64 x485004_3, .int .i64 x485005_3, .int .i64 x485006_3, .int .i64 x485007_3, .int .i64 x485008_3, .int .i64 x485009_3, .int .i64 x485010_3, .int .i64 x485011_3, .bool false, .int .i64 0, .int .i64 0, .int .i64 0, .int .i64 0, .slice none 0 0] 43 (0, 0)) (by exact Zz.q5 BK484.out NB484_492.out) hb); have n2_ := Aside0.mk (blk_below (g := gb492) (o := .cells #[.int .i64 (rd t485 0), .int .i64 (rd t485 1), .int .i64 x493002_3, .int .i64 x493003_3, .int .i64 x493004_3, .int .i64 x493005_3, .int .i64 x493006_3, .int .i64 x493007_3, .int .i64 x493008_3, .int .i64 x493009_3, .int .i64 x493010_3, .int .i64 x493011_3, .bool x493012_55, .int .i64 t510, .int .i64 t511, .int .i64 t512, .int .i64 t513, .slice Ao84 t514.length co84] 43 (0, 0)) (by (with_reducible repeat (first | refine blk_drewN ?_ _ | refine blk_drew ?_ | refine blk_alloc ?_ _)); exact Zz.u18_13_17 BK492.out) hb); have n3_ := Aside0.mk (below_step (Zz.i HB.out) hb); clear HO516; clear BK484; clear BK492; clear HB; have HO516 := n0_; have BK484 := n1_; have BK492 := n2_; have HB := n3_; clear n0_ n1_ n2_ n3_; (try clear hb); (try clear hk); have hcz86 := Zz.c18 BK484.out; have hfz86 := blk_frozen BK484.out))
           refine bodyPost_ret (results_ct rfl _ _ gb484 43 #[.int .i64 0, .int .i64 0, .int .i64 0, .int .i64 0, .int .i64 0, .int .i64 0, .int .i64 0, .int .i64 0, .int .i64 0, .int .i64 0, .int .i64 0, .int .i64 0, .bool false, .int .i64 0, .int .i64 0, .int .i64 0, .int .i64 0, .slice none 0 0] (0, 0) _ rfl (by (with_reducible repeat (first | refine blk_drewN ?_ _ | refine blk_drew ?_ | refine blk_alloc ?_ _)); exact Zz.u18_0_17 BK484.out) Try.underlying43 rfl (by kernel_rfl)) rfl ?_
           exact ⟨_, Zr.e, by first | exact Kd.R_nil _ _ _ _ _ | exact Kd.N_nil _ _ _ _ _ | exact Kd.V_nil _ _ _ _ _ | exact Kd.Q_nil _ _ _ _ _ | exact Kd.S_nil _ _ _ _ _, Zz.i HB.out⟩
          rw [if_neg c70] at H
          obtain ⟨c70b0, c70b1⟩ := Zr.n c70
          simp only [Option.some.injEq, Prod.mk.injEq] at H
          obtain ⟨rfl, rfl, rfl, rfl, rfl, rfl, rfl, rfl, rfl, rfl, rfl, rfl, rfl, rfl, rfl, rfl, rfl, rfl, rfl⟩ := H
          have hnb87 := NB492_484.out
          have hnc87 := NB484_492.out
          have hcz88 := Zz.c18 BK492.out
          have hfz88 := blk_frozen BK492.out
          go_wp2_with (first | ((with_reducible refine gate_callee (f := 48) rfl ?_); refine goesL_ (some 92) rfl rfl Try.func48 (by kernel_rfl) rfl #[.string t499, .int .i64 (t499.size : Int)] rfl Zz.g ?_; (with_reducible refine (varint_TakeText.calls t499 (t499.size : Int) t507 t508 t509 _ A67.out).mono ?_); rintro e w' ⟨rfl, ⟨nd, rfl⟩⟩; refine ⟨_, rfl, ?_⟩; (try (rw [drewN_self wc]; generalize hq_ : World.drewN wc _ = wc; have n0_ : Aside0 (wc.heap[gb484]? = some (.cells #[.int .i64 0, .int .i64 0, .int .i64 x485002_3, .int .i64 x485003_3, .int .i64 x485004_3, .int .i64 x485005_3, .int .i64 x485006_3, .int .i64 x485007_3, .int .i64 x485008_3, .int .i64 x485009_3, .int .i64 x485010_3, .int .i64 x485011_3, .bool false, .int .i64 0, .int .i64 0, .int .i64 0, .int .i64 0, .slice none 0 0] 43 (0, 0))) := ⟨by rw [← hq_]; exact (Zz.p BK484.out)⟩; have n1_ : Aside0 (wc.heap[gb492]? = some (.cells #[.int .i64 (rd t485 0), .int .i64 (rd t485 1), .int .i64 x493002_3, .int .i64 x493003_3, .int .i64 x493004_3, .int .i64 x493005_3, .int .i64 x493006_3, .int .i64 x493007_3, .int .i64 x493008_3, .int .i64 x493009_3, .int .i64 x493010_3, .int .i64 x493011_3, .bool x493012_55, .int .i64 0, .int .i64 0, .int .i64 0, .int .i64 0, .slice none 0 0] 43 (0, 0))) := ⟨by rw [← hq_]; exact (Zz.p BK492.out)⟩; have n2_ := Aside0.mk (Zz.iq hq_ HB.out); clear BK484 BK492 HB hq_; have BK484 := n0_; have BK492 := n1_; have HB := n2_; clear n0_ n1_ n2_))) | ((with_reducible refine gate_callee (f := 49) rfl ?_); refine goesL_ (some 98) rfl rfl Try.func49 (by kernel_rfl) rfl #[.string t507] rfl Zz.g ?_; (with_reducible refine (batch_Decode.calls kj55 t507 t510 t511 t512 t513 t514 t517 _ A68.out).mono ?_); rintro e w89 ⟨v515, rfl, ho0, hb⟩; refine ⟨_, rfl, ?_⟩; have HO516 := Aside0.mk (Kd.R_lower ho0 (below_size (Zz.i HB.out))); replace BK484 := Aside0.mk (Zz.bb BK484.out hb); replace BK492 := Aside0.mk (Zz.bb BK492.out hb); replace HB := Aside0.mk (below_step (Zz.i HB.out) hb); (try clear hb); (try clear ho0); have hcz90 := Zz.c18 BK492.out; have hfz90 := blk_frozen BK492.out; obtain ⟨Ao91, co91, eo91⟩ := Kd.R_slice HO516.out; subst eo91; have hld := Kp.LDAsk_blk (Kp.put5 BK492.out (.int .i64 t510) (.int .i64 t511) (.int .i64 t512) (.int .i64 t513) (.slice Ao91 t514.length co91))) | ((with_reducible refine gate_callee (f := 16) rfl ?_); refine goesL_ (some 104) rfl rfl Try.func16 (by kernel_rfl) rfl #[.agg #[.int .i64 (rd t485 0), .int .i64 (rd t485 1), .int .i64 x493002_3, .int .i64 x493003_3, .int .i64 x493004_3, .int .i64 x493005_3, .int .i64 x493006_3, .int .i64 x493007_3, .int .i64 x493008_3, .int .i64 x493009_3, .int .i64 x493010_3, .int .i64 x493011_3, .bool x493012_55, .int .i64 t510, .int .i64 t511, .int .i64 t512, .int .i64 t513, .slice Ao91 t514.length co91]] rfl Zz.g ?_; (with_reducible refine (wire_EncodeAsk.calls kj55 (rd t485 0) (rd t485 1) x493002_3 x493003_3 x493004_3 x493005_3 x493006_3 x493007_3 x493008_3 x493009_3 x493010_3 x493011_3 x493012_55 t510 t511 t512 t513 _ _ t514 t518 t519 _ ?side1 ?side2 A69.out).mono ?_); (case side1 => refine (Kd.R_reads' (e := 57) (base := w.heap.size) (ok := fun k_ => True) (n := t514.length) (c := co91) ?_).2.2; exact (by (with_reducible repeat (first | apply Kd.R_alloc | apply Kd.R_drewN | apply Kd.R_drew)); exact (Kd.R_mono (Zz.f5 (Kd.R_types HO516.out BK492.out (by first | decide | exact Kp.fp_ne (by decide))) (fun _ hk => hk.2)) (fun _ h_ => h_.1)))); (case side2 => exact (Kd.R_reads' HO516.out).2.1); rintro e w92 ⟨rfl, hb⟩; refine ⟨_, rfl, ?_⟩; have n0_ := Aside0.mk (Kd.R_below (by (with_reducible repeat (first | apply Kd.R_alloc | apply Kd.R_drewN | apply Kd.R_drew)); exact (Kd.R_mono (Zz.f5 (Kd.R_types HO516.out BK492.out (by first | decide | exact Kp.fp_ne (by decide))) (fun _ hk => hk.2)) (fun _ h_ => h_.1))) hb); have n1_ := Aside0.mk (blk_below (g := gb484) (o := .cells #[.int .i64 0, .int .i64 0, .int .i64 x485002_3, .int .i64 x485003_3, .int .i64 x485004_3, .int .i64 x485005_3, .int .i64 x485006_3, .int .i64 x485007_3, .int .i64 x485008_3, .int .i64 x485009_3, .int .i64 x485010_3, .int .i64 x485011_3, .bool false, .int .i64 0, .int .i64 0, .int .i64 0, .int .i64 0, .slice none 0 0] 43 (0, 0)) (by exact Zz.q5 BK484.out NB484_492.out) hb); have n2_ := Aside0.mk (blk_below (g := gb492) (o := .cells #[.int .i64 (rd t485 0), .int .i64 (rd t485 1), .int .i64 x493002_3, .int .i64 x493003_3, .int .i64 x493004_3, .int .i64 x493005_3, .int .i64 x493006_3, .int .i64 x493007_3, .int .i64 x493008_3, .int .i64 x493009_3, .int .i64 x493010_3, .int .i64 x493011_3, .bool x493012_55, .int .i64 t510, .int .i64 t511, .int .i64 t512, .int .i64 t513, .slice Ao91 t514.length co91] 43 (0, 0)) (by (with_reducible repeat (first | refine blk_drewN ?_ _ | refine blk_drew ?_ | refine blk_alloc ?_ _)); exact Zz.u18_13_17 BK492.out) hb); have n3_ := Aside0.mk (below_step (Zz.i HB.out) hb); clear HO516; clear BK484; clear BK492; clear HB; have HO516 := n0_; have BK484 := n1_; have BK492 := n2_; have HB := n3_; clear n0_ n1_ n2_ n3_; (try clear hb); (try clear hk); have hcz93 := Zz.c18 BK484.out; have hfz93 := blk_frozen BK484.out))
          refine bodyPost_ret (results_ct rfl _ _ gb484 43 #[.int .i64 0, .int .i64 0, .int .i64 0, .int .i64 0, .int .i64 0, .int .i64 0, .int .i64 0, .int .i64 0, .int .i64 0, .int .i64 0, .int .i64 0, .int .i64 0, .bool false, .int .i64 0, .int .i64 0, .int .i64 0, .int .i64 0, .slice none 0 0] (0, 0) _ rfl (by (with_reducible repeat (first | refine blk_drewN ?_ _ | refine blk_drew ?_ | refine blk_alloc ?_ _)); exact Zz.u18_0_17 BK484.out) Try.underlying43 rfl (by kernel_rfl)) rfl ?_
          exact ⟨_, Zr.e, by first | exact Kd.R_nil _ _ _ _ _ | exact Kd.N_nil _ _ _ _ _ | exact Kd.V_nil _ _ _ _ _ | exact Kd.Q_nil _ _ _ _ _ | exact Kd.S_nil _ _ _ _ _, Zz.i HB.out⟩
         rw [if_neg c66] at H
         obtain ⟨c66b0, c66b1⟩ := Zr.n c66
         replace H := Option.bind_eq_some_iff.mp H
         obtain ⟨⟨t520, t521⟩, A940, H⟩ := H
         try dsimp only at H
         have A94 := Aside0.mk A940
         clear A940
         by_cases c95 : t521 = 0
         ·rw [if_pos c95] at H
          obtain ⟨c95b0, c95b1⟩ := Zr.y c95
          clear c95
          by_cases c96 : t520.toList = a0.toList
          ·rw [if_pos c96] at H
           obtain ⟨c96b0, c96b1⟩ := Zr.y c96
           clear c96
           simp only [Option.some.injEq, Prod.mk.injEq] at H
           obtain ⟨rfl, rfl, rfl, rfl, rfl, rfl, rfl, rfl, rfl, rfl, rfl, rfl, rfl, rfl, rfl, rfl, rfl, rfl, rfl⟩ := H
           have hnb97 := NB492_484.out
           have hnc97 := NB484_492.out
           have hcz98 := Zz.c18 BK492.out
           have hfz98 := blk_frozen BK492.out
           go_wp2_with (first | ((with_reducible refine gate_callee (f := 16) rfl ?_); refine goesL_ (some 104) rfl rfl Try.func16 (by kernel_rfl) rfl #[.agg #[.int .i64 (rd t485 0), .int .i64 (rd t485 1), .int .i64 x493002_3, .int .i64 x493003_3, .int .i64 x493004_3, .int .i64 x493005_3, .int .i64 x493006_3, .int .i64 x493007_3, .int .i64 x493008_3, .int .i64 x493009_3, .int .i64 x493010_3, .int .i64 x493011_3, .bool x493012_55, .int .i64 0, .int .i64 0, .int .i64 0, .int .i64 0, .slice none 0 0]] rfl Zz.g ?_; (refine (wire_EncodeAsk.calls kj55 (rd t485 0) (rd t485 1) x493002_3 x493003_3 x493004_3 x493005_3 x493006_3 x493007_3 x493008_3 x493009_3 x493010_3 x493011_3 x493012_55 0 0 0 0 _ _ ([] : List (S57)) t520 t521 _ ?side1 ?side2 A94.out).mono ?_); (case side1 => exact Kd.C_nil _ _); (case side2 => exact Nat.le_refl _); rintro e w99 ⟨rfl, hb⟩; refine ⟨_, rfl, ?_⟩; replace BK484 := Aside0.mk (Zz.bb BK484.out hb); replace BK492 := Aside0.mk (Zz.bb BK492.out hb); replace HB := Aside0.mk (below_step (Zz.i HB.out) hb); (try clear hb); have hcz100 := Zz.c18 BK492.out; have hfz100 := blk_frozen BK492.out; have hcz101 := Zz.c18 BK484.out; have hfz101 := blk_frozen BK484.out))
           refine bodyPost_ret (results_ct rfl _ _ gb484 43 #[.int .i64 (rd t485 0), .int .i64 (rd t485 1), .int .i64 x493002_3, .int .i64 x493003_3, .int .i64 x493004_3, .int .i64 x493005_3, .int .i64 x493006_3, .int .i64 x493007_3, .int .i64 x493008_3, .int .i64 x493009_3, .int .i64 x493010_3, .int .i64 x493011_3, .bool x493012_55, .int .i64 0, .int .i64 0, .int .i64 0, .int .i64 0, .slice none 0 0] (0, 0) _ rfl (by (with_reducible repeat (first | refine blk_drewN ?_ _ | refine blk_drew ?_ | refine blk_alloc ?_ _)); exact Zz.u18_0_17 BK484.out) Try.underlying43 rfl (by kernel_rfl)) rfl ?_
           exact ⟨_, Zr.e, by first | exact Kd.R_nil _ _ _ _ _ | exact Kd.N_nil _ _ _ _ _ | exact Kd.V_nil _ _ _ _ _ | exact Kd.Q_nil _ _ _ _ _ | exact Kd.S_nil _ _ _ _ _, Zz.i HB.out⟩
          rw [if_neg c96] at H
          obtain ⟨c96b0, c96b1⟩ := Zr.n c96
          simp only [Option.some.injEq, Prod.mk.injEq] at H
          obtain ⟨rfl, rfl, rfl, rfl, rfl, rfl, rfl, rfl, rfl, rfl, rfl, rfl, rfl, rfl, rfl, rfl, rfl, rfl, rfl⟩ := H
          have hnb102 := NB492_484.out
          have hnc102 := NB484_492.out
          have hcz103 := Zz.c18 BK492.out
          have hfz103 := blk_frozen BK492.out
          go_wp2_with (first | ((with_reducible refine gate_callee (f := 16) rfl ?_); refine goesL_ (some 104) rfl rfl Try.func16 (by kernel_rfl) rfl #[.agg #[.int .i64 (rd t485 0), .int .i64 (rd t485 1), .int .i64 x493002_3, .int .i64 x493003_3, .int .i64 x493004_3, .int .i64 x493005_3, .int .i64 x493006_3, .int .i64 x493007_3, .int .i64 x493008_3, .int .i64 x493009_3, .int .i64 x493010_3, .int .i64 x493011_3, .bool x493012_55, .int .i64 0, .int .i64 0, .int .i64 0, .int .i64 0, .slice none 0 0]] rfl Zz.g ?_; (refine (wire_EncodeAsk.calls kj55 (rd t485 0) (rd t485 1) x493002_3 x493003_3 x493004_3 x493005_3 x493006_3 x493007_3 x493008_3 x493009_3 x493010_3 x493011_3 x493012_55 0 0 0 0 _ _ ([] : List (S57)) t520 t521 _ ?side1 ?side2 A94.out).mono ?_); (case side1 => exact Kd.C_nil _ _); (case side2 => exact Nat.le_refl _); rintro e w104 ⟨rfl, hb⟩; refine ⟨_, rfl, ?_⟩; replace BK484 := Aside0.mk (Zz.bb BK484.out hb); replace BK492 := Aside0.mk (Zz.bb BK492.out hb); replace HB := Aside0.mk (below_step (Zz.i HB.out) hb); (try clear hb); have hcz105 := Zz.c18 BK484.out; have hfz105 := blk_frozen BK484.out))
          refine bodyPost_ret (results_ct rfl _ _ gb484 43 #[.int .i64 0, .int .i64 0, .int .i64 0, .int .i64 0, .int .i64 0, .int .i64 0, .int .i64 0, .int .i64 0, .int .i64 0, .int .i64 0, .int .i64 0, .int .i64 0, .bool false, .int .i64 0, .int .i64 0, .int .i64 0, .int .i64 0, .slice none 0 0] (0, 0) _ rfl (by (with_reducible repeat (first | refine blk_drewN ?_ _ | refine blk_drew ?_ | refine blk_alloc ?_ _)); exact Zz.u18_0_17 BK484.out) Try.underlying43 rfl (by kernel_rfl)) rfl ?_
          exact ⟨_, Zr.e, by first | exact Kd.R_nil _ _ _ _ _ | exact Kd.N_nil _ _ _ _ _ | exact Kd.V_nil _ _ _ _ _ | exact Kd.Q_nil _ _ _ _ _ | exact Kd.S_nil _ _ _ _ _, Zz.i HB.out⟩
         rw [if_neg c95] at H
         obtain ⟨c95b0, c95b1⟩ := Zr.n c95
         simp only [Option.some.injEq, Prod.mk.injEq] at H
         obtain ⟨rfl, rfl, rfl, rfl, rfl, rfl, rfl, rfl, rfl, rfl, rfl, rfl, rfl, rfl, rfl, rfl, rfl, rfl, rfl⟩ := H
         have hnb106 := NB492_484.out
         have hnc106 := NB484_492.out
         have hcz107 := Zz.c18 BK492.out
         have hfz107 := blk_frozen BK492.out
         go_wp2_with (first | ((with_reducible refine gate_callee (f := 16) rfl ?_); refine goesL_ (some 104) rfl rfl Try.func16 (by kernel_rfl) rfl #[.agg #[.int .i64 (rd t485 0), .int .i64 (rd t485 1), .int .i64 x493002_3, .int .i64 x493003_3, .int .i64 x493004_3, .int .i64 x493005_3, .int .i64 x493006_3, .int .i64 x493007_3, .int .i64 x493008_3, .int .i64 x493009_3, .int .i64 x493010_3, .int .i64 x493011_3, .bool x493012_55, .int .i64 0, .int .i64 0, .int .i64 0, .int .i64 0, .slice none 0 0]] rfl Zz.g ?_; (refine (wire_EncodeAsk.calls kj55 (rd t485 0) (rd t485 1) x493002_3 x493003_3 x493004_3 x493005_3 x493006_3 x493007_3 x493008_3 x493009_3 x493010_3 x493011_3 x493012_55 0 0 0 0 _ _ ([] : List (S57)) t520 t521 _ ?side1 ?side2 A94.out).mono ?_); (case side1 => exact Kd.C_nil _ _); (case side2 => exact Nat.le_refl _); rintro e w108 ⟨rfl, hb⟩; refine ⟨_, rfl, ?_⟩; replace BK484 := Aside0.mk (Zz.bb BK484.out hb); replace BK492 := Aside0.mk (Zz.bb BK492.out hb); replace HB := Aside0.mk (below_step (Zz.i HB.out) hb); (try clear hb); have hcz109 := Zz.c18 BK484.out; have hfz109 := blk_frozen BK484.out))
         refine bodyPost_ret (results_ct rfl _ _ gb484 43 #[.int .i64 0, .int .i64 0, .int .i64 0, .int .i64 0, .int .i64 0, .int .i64 0, .int .i64 0, .int .i64 0, .int .i64 0, .int .i64 0, .int .i64 0, .int .i64 0, .bool false, .int .i64 0, .int .i64 0, .int .i64 0, .int .i64 0, .slice none 0 0] (0, 0) _ rfl (by (with_reducible repeat (first | refine blk_drewN ?_ _ | refine blk_drew ?_ | refine blk_alloc ?_ _)); exact Zz.u18_0_17 BK484.out) Try.underlying43 rfl (by kernel_rfl)) rfl ?_
         exact ⟨_, Zr.e, by first | exact Kd.R_nil _ _ _ _ _ | exact Kd.N_nil _ _ _ _ _ | exact Kd.V_nil _ _ _ _ _ | exact Kd.Q_nil _ _ _ _ _ | exact Kd.S_nil _ _ _ _ _, Zz.i HB.out⟩
   rw [if_neg c5] at H
   exact absurd H (by simp)
  rw [if_neg c4] at H
  exact absurd H (by simp)
 rw [if_neg c3] at H
 obtain ⟨c3b0, c3b1⟩ := Zr.n c3
 simp only [Option.some.injEq, Prod.mk.injEq] at H
 obtain ⟨rfl, rfl, rfl, rfl, rfl, rfl, rfl, rfl, rfl, rfl, rfl, rfl, rfl, rfl, rfl, rfl, rfl, rfl, rfl⟩ := H
 go_enter Try.func18, Try.ntmps18
 go_wp2_with (first | ((with_reducible refine gate_dst (N := 2) rfl ?_); refine box_event ?hg (N := 2) ?hd (cs := #[.int .i64 0, .int .i64 0, .int .i64 0, .int .i64 0, .int .i64 0, .int .i64 0, .int .i64 0, .int .i64 0, .int .i64 0, .int .i64 0, .int .i64 0, .int .i64 0, .bool false, .int .i64 0, .int .i64 0, .int .i64 0, .int .i64 0, .slice none 0 0]) (t := 43) ?hr ?_; (case hd => rfl); (case hg => rfl); (case hr => first | (go_simp; done) | (go_simp; rfl)); intro gb484 hg w110 hbox hb; have BK484 := Aside0.mk (hbox); have GW484 := Aside0.mk (Zz.ge hg HB.out); have GE484 := Aside0.mk (Zz.ge hg HB.out); replace HB := Aside0.mk (below_step (Zz.i HB.out) hb); clear hb hbox hg) | ((with_reducible refine gate_callee (f := 32) rfl ?_); refine goesL_ (some 21) rfl rfl Try.func32 (by kernel_rfl) rfl #[.string a0, .int .i64 2] rfl Zz.g ?_; (with_reducible refine (varint_TakeAll.calls k a0 2 t485 t486 t487 _ A2.out).mono ?_); rintro e w111 ⟨v488, rfl, ho0, hb⟩; refine ⟨_, rfl, ?_⟩; have HO489 := Aside0.mk (Kd.R_lower ho0 (below_size (Zz.i HB.out))); replace BK484 := Aside0.mk (Zz.bb BK484.out hb); replace HB := Aside0.mk (below_step (Zz.i HB.out) hb); (try clear hb); (try clear ho0); have hcz112 := Zz.c18 BK484.out; have hfz112 := blk_frozen BK484.out))
 refine bodyPost_ret (results_ct rfl _ _ gb484 43 #[.int .i64 0, .int .i64 0, .int .i64 0, .int .i64 0, .int .i64 0, .int .i64 0, .int .i64 0, .int .i64 0, .int .i64 0, .int .i64 0, .int .i64 0, .int .i64 0, .bool false, .int .i64 0, .int .i64 0, .int .i64 0, .int .i64 0, .slice none 0 0] (0, 0) _ rfl (by (with_reducible repeat (first | refine blk_drewN ?_ _ | refine blk_drew ?_ | refine blk_alloc ?_ _)); exact Zz.u18_0_17 BK484.out) Try.underlying43 rfl (by kernel_rfl)) rfl ?_
 exact ⟨_, Zr.e, by first | exact Kd.R_nil _ _ _ _ _ | exact Kd.N_nil _ _ _ _ _ | exact Kd.V_nil _ _ _ _ _ | exact Kd.Q_nil _ _ _ _ _ | exact Kd.S_nil _ _ _ _ _, Zz.i HB.out⟩

end Go.Proofs.Ytikbpjdgihheiaa.P
end
