-- Written by wip/mk.py of this repo: the kit's print program, with contracts of our own among its functions (merge.py: Px31 Px32).
import Derived.Test.YtikbpjdgihheiaaM0
import Derived.Test.YtikbpjdgihheiaaM8
import Derived.Test.YtikbpjdgihheiaaM9
import Derived.Test.YtikbpjdgihheiaaZz
import Derived.Test.YtikbpjdgihheiaaZr
section
namespace Go.Proofs.Ytikbpjdgihheiaa.P
open Go.RowKit Go.Proofs.YtikbpjdgihheiaaW.PrintWords Go.Proofs.YtikbpjdgihheiaaW.PrintLast Go.Proofs.YtikbpjdgihheiaaW.PrintMore
attribute [local go_sem] max2_int min2_int max_two min_two max_three min_three max_four min_four   -- for this text's walks alone
attribute [local go_sem ↓] Kp.LDAsk_in
attribute [local go_sem] Kp.LDAsk_run
set_option linter.unusedVariables false
set_option linter.unusedSimpArgs false

/-! ### headgateref06_May: function 61 -/
mutual
def headgateref06_May.j0 : Nat → Bool → Int → Int → Int → Int → List (S57) → Option (Bool)
  | 0, _, _, _, _, _, _ => none
  | k + 1, x32, x413000, x413001, x413002, x413003, x413004 => if x32 = true then (some false) else (headgateref06_May.l0 k 0 x413000 x413001 x413002 x413003 x413004)
def headgateref06_May.l0 : Nat → Int → Int → Int → Int → Int → List (S57) → Option (Bool)
  | 0, _, _, _, _, _, _ => none
  | k + 1, x3, x413000, x413001, x413002, x413003, x413004 => if x3 < (x413004.length : Int) then (if 0 ≤ x3 then ((headgateref06_MayRecord.f ((rd_T57 x413004 x3).f0) ((rd_T57 x413004 x3).f1) ((rd_T57 x413004 x3).f2)).bind fun t417 => (if t417 = true then (headgateref06_May.l0 k (wrap64 (x3 + 1)) x413000 x413001 x413002 x413003 x413004) else (some false))) else (none)) else (if x413001 > 0 then (headgateref06_May.j2 k (decide (x413002 > 0)) x413000 x413001 x413002 x413003 x413004) else (headgateref06_May.j2 k false x413000 x413001 x413002 x413003 x413004))
def headgateref06_May.j2 : Nat → Bool → Int → Int → Int → Int → List (S57) → Option (Bool)
  | 0, _, _, _, _, _, _ => none
  | k + 1, x4, x413000, x413001, x413002, x413003, x413004 => if x413001 = 0 then (if x413002 = 0 then (headgateref06_May.j3 k x4 (x413003 == 0) x413000 x413001 x413002 x413003 x413004) else (headgateref06_May.j3 k x4 false x413000 x413001 x413002 x413003 x413004)) else (headgateref06_May.j3 k x4 false x413000 x413001 x413002 x413003 x413004)
def headgateref06_May.j3 : Nat → Bool → Bool → Int → Int → Int → Int → List (S57) → Option (Bool)
  | 0, _, _, _, _, _, _, _ => none
  | k + 1, x4, x5, x413000, x413001, x413002, x413003, x413004 => if x413000 = 1 then (if (x413004.length : Int) > 0 then (if x4 = true then (some true) else (some x5)) else (some false)) else (if x413000 = 2 then (if (x413004.length : Int) > 0 then (some x4) else (some false)) else (if x413000 = 3 then (if (x413004.length : Int) = 0 then (if x4 = true then (some (x413003 == 0)) else (some false)) else (some false)) else (if x413000 = 4 then (if (x413004.length : Int) = 0 then (if x4 = true then (some (x413003 == 0)) else (some false)) else (some false)) else (some false))))
end
def headgateref06_May.f (k : Nat) (a0_0 : Int) (a0_1 : Int) (a0_2 : Int) (a0_3 : Int) (l0_4 : List (S57)) : Option (Bool) := (headgateref06_In.f a0_1).bind fun t413 => (if t413 = true then (if a0_1 > 8 then (headgateref06_May.j0 k true a0_0 a0_1 a0_2 a0_3 l0_4) else ((headgateref06_In.f a0_2).bind fun t414 => (if t414 = true then ((headgateref06_In.f a0_3).bind fun t415 => (if t415 = true then (headgateref06_May.j0 k (decide ((l0_4.length : Int) > 64)) a0_0 a0_1 a0_2 a0_3 l0_4) else (headgateref06_May.j0 k true a0_0 a0_1 a0_2 a0_3 l0_4))) else (headgateref06_May.j0 k true a0_0 a0_1 a0_2 a0_3 l0_4)))) else (headgateref06_May.j0 k true a0_0 a0_1 a0_2 a0_3 l0_4))
set_option maxHeartbeats 8000000 in
set_option maxRecDepth 100000 in
theorem headgateref06_May.calls (k : Nat) (a0_0 : Int) (a0_1 : Int) (a0_2 : Int) (a0_3 : Int) (A0_4 : Option Addr) (c0_4 : Nat) (l0_4 : List (S57)) (r : Bool) (w : World) (hr0_4 : Kd.C k57 w A0_4 l0_4.length l0_4) (hc0_4 : l0_4.length ≤ c0_4) (h : headgateref06_May.f k a0_0 a0_1 a0_2 a0_3 l0_4 = some r) :
    Calls Try.prog 61 #[.agg #[.int .i64 a0_0, .int .i64 a0_1, .int .i64 a0_2, .int .i64 a0_3, .slice A0_4 l0_4.length c0_4]] w fun e w' => e = .returned (.bool r) ∧ Below w.heap.size w w' := by
 have hu41 := Try.underlying41
 have hu57 := Try.underlying57
 have HR0_4 := Aside0.mk hr0_4
 have HC0_4 := Aside0.mk hc0_4
 clear hr0_4 hc0_4
 have HB := Aside0.mk (Below.refl w.heap.size w)
 have H : ((headgateref06_In.f a0_1).bind fun t413 => (if t413 = true then (if a0_1 > 8 then (headgateref06_May.j0 k true a0_0 a0_1 a0_2 a0_3 l0_4) else ((headgateref06_In.f a0_2).bind fun t414 => (if t414 = true then ((headgateref06_In.f a0_3).bind fun t415 => (if t415 = true then (headgateref06_May.j0 k (decide ((l0_4.length : Int) > 64)) a0_0 a0_1 a0_2 a0_3 l0_4) else (headgateref06_May.j0 k true a0_0 a0_1 a0_2 a0_3 l0_4))) else (headgateref06_May.j0 k true a0_0 a0_1 a0_2 a0_3 l0_4)))) else (headgateref06_May.j0 k true a0_0 a0_1 a0_2 a0_3 l0_4))) = some r := h
 clear h
 have HC2 := Aside0.mk H
 clear H
 go_enter Try.func61, Try.ntmps61
 go_upto_region 1 with (first | ((with_reducible refine gate_dst (N := 1) rfl ?_); (try (refine gate_guard (by rfl) ?_; dsimp only)); refine box_event ?hg (N := 1) ?hd (cs := #[.int .i64 a0_0, .int .i64 a0_1, .int .i64 a0_2, .int .i64 a0_3, .slice A0_4 l0_4.length c0_4]) (t := 41) ?hr ?_; (case hd => rfl); (case hg => rfl); (case hr => first | (go_simp; done) | (go_simp; rfl)); intro gb412 hg w3 hbox hb; have BK412 := Aside0.mk (hbox); have GW412 := Aside0.mk (Zz.ge hg HB.out); have GE412 := Aside0.mk (Zz.ge hg HB.out); replace HB := Aside0.mk (below_step (Zz.i HB.out) hb); clear hb hbox hg))
 (try simp only [Act.put, List.setIfInBounds_toArray, List.set_cons_zero, List.set_cons_succ])
 go_cut [32] (fun v32 wc => ∃ (kq : Nat) (x32_1 : Bool), v32 = .bool x32_1 ∧ Aside0 (headgateref06_May.j0 kq x32_1 a0_0 a0_1 a0_2 a0_3 l0_4 = some r) ∧ Aside0 (kq ≤ k) ∧ Aside0 (wc.heap[gb412]? = some (.cells #[.int .i64 a0_0, .int .i64 a0_1, .int .i64 a0_2, .int .i64 a0_3, (.slice A0_4 l0_4.length c0_4)] 41 (0, 0))) ∧ Aside0 (Below w.heap.size w wc))
 case first =>
  have H := HC2.out
  clear HC2
  replace H := Option.bind_eq_some_iff.mp H
  obtain ⟨t413, A40, H⟩ := H
  try dsimp only at H
  have A4 := Aside0.mk A40
  clear A40
  by_cases c5 : t413 = true
  ·subst c5
   rw [if_pos rfl] at H
   by_cases c6 : a0_1 > 8
   ·rw [if_pos c6] at H
    have c6b0 : decide (8 < a0_1) = true := decide_eq_true c6
    clear c6
    (first | rw [c6b0] | rw [c6b9] | (simp only [i64_w, i32_w]; rw [c6b0]) | skip)
    have H' := Aside0.mk H
    clear H
    have hcz7 := Zz.c5 BK412.out
    have hfz7 := blk_frozen BK412.out
    go_wp2_with (first | ((with_reducible refine gate_callee (f := 66) rfl ?_); refine goesL_ (some 8) rfl rfl Try.func66 (by kernel_rfl) rfl #[.int .i64 a0_1] rfl Zz.g ?_; (with_reducible refine (headgateref06_In.calls a0_1 true _ A4.out).mono ?_); rintro e w' ⟨rfl, ⟨nd, rfl⟩⟩; refine ⟨_, rfl, ?_⟩))
    go_meet
    case rel => exact ⟨_, (true), Zz.q, H', ⟨by first | omega | exact Nat.le_refl _⟩, ⟨Zz.p BK412.out⟩, ⟨Zz.i HB.out⟩⟩
   rw [if_neg c6] at H
   have c6b0 : decide (8 < a0_1) = false := decide_eq_false c6
   clear c6
   (first | rw [c6b0] | rw [c6b9] | (simp only [i64_w, i32_w]; rw [c6b0]) | skip)
   replace H := Option.bind_eq_some_iff.mp H
   obtain ⟨t414, A80, H⟩ := H
   try dsimp only at H
   have A8 := Aside0.mk A80
   clear A80
   by_cases c9 : t414 = true
   ·subst c9
    rw [if_pos rfl] at H
    replace H := Option.bind_eq_some_iff.mp H
    obtain ⟨t415, A100, H⟩ := H
    try dsimp only at H
    have A10 := Aside0.mk A100
    clear A100
    by_cases c11 : t415 = true
    ·subst c11
     rw [if_pos rfl] at H
     have H' := Aside0.mk H
     clear H
     have hcz12 := Zz.c5 BK412.out
     have hfz12 := blk_frozen BK412.out
     go_wp2_with (first | ((with_reducible refine gate_callee (f := 66) rfl ?_); refine goesL_ (some 8) rfl rfl Try.func66 (by kernel_rfl) rfl #[.int .i64 a0_1] rfl Zz.g ?_; (with_reducible refine (headgateref06_In.calls a0_1 true _ A4.out).mono ?_); rintro e w' ⟨rfl, ⟨nd, rfl⟩⟩; refine ⟨_, rfl, ?_⟩) | (go_at_call 66; (with_reducible refine (headgateref06_In.calls a0_2 true _ A8.out).mono ?_); rintro e w' ⟨rfl, ⟨nd, rfl⟩⟩) | (go_at_call 66; (with_reducible refine (headgateref06_In.calls a0_3 true _ A10.out).mono ?_); rintro e w' ⟨rfl, ⟨nd, rfl⟩⟩))
     go_meet
     case rel => exact ⟨_, (decide ((l0_4.length : Int) > 64)), Zz.q, H', ⟨by first | omega | exact Nat.le_refl _⟩, ⟨Zz.p BK412.out⟩, ⟨Zz.i HB.out⟩⟩
    replace c11 := Bool.eq_false_iff.mpr c11
    subst c11
    rw [if_neg Bool.false_ne_true] at H
    have H' := Aside0.mk H
    clear H
    have hcz13 := Zz.c5 BK412.out
    have hfz13 := blk_frozen BK412.out
    go_wp2_with (first | ((with_reducible refine gate_callee (f := 66) rfl ?_); refine goesL_ (some 8) rfl rfl Try.func66 (by kernel_rfl) rfl #[.int .i64 a0_1] rfl Zz.g ?_; (with_reducible refine (headgateref06_In.calls a0_1 true _ A4.out).mono ?_); rintro e w' ⟨rfl, ⟨nd, rfl⟩⟩; refine ⟨_, rfl, ?_⟩) | (go_at_call 66; (with_reducible refine (headgateref06_In.calls a0_2 true _ A8.out).mono ?_); rintro e w' ⟨rfl, ⟨nd, rfl⟩⟩) | (go_at_call 66; (with_reducible refine (headgateref06_In.calls a0_3 false _ A10.out).mono ?_); rintro e w' ⟨rfl, ⟨nd, rfl⟩⟩))
    go_meet
    case rel => exact ⟨_, (true), Zz.q, H', ⟨by first | omega | exact Nat.le_refl _⟩, ⟨Zz.p BK412.out⟩, ⟨Zz.i HB.out⟩⟩
   replace c9 := Bool.eq_false_iff.mpr c9
   subst c9
   rw [if_neg Bool.false_ne_true] at H
   have H' := Aside0.mk H
   clear H
   have hcz14 := Zz.c5 BK412.out
   have hfz14 := blk_frozen BK412.out
   go_wp2_with (first | ((with_reducible refine gate_callee (f := 66) rfl ?_); refine goesL_ (some 8) rfl rfl Try.func66 (by kernel_rfl) rfl #[.int .i64 a0_1] rfl Zz.g ?_; (with_reducible refine (headgateref06_In.calls a0_1 true _ A4.out).mono ?_); rintro e w' ⟨rfl, ⟨nd, rfl⟩⟩; refine ⟨_, rfl, ?_⟩) | (go_at_call 66; (with_reducible refine (headgateref06_In.calls a0_2 false _ A8.out).mono ?_); rintro e w' ⟨rfl, ⟨nd, rfl⟩⟩))
   go_meet
   case rel => exact ⟨_, (true), Zz.q, H', ⟨by first | omega | exact Nat.le_refl _⟩, ⟨Zz.p BK412.out⟩, ⟨Zz.i HB.out⟩⟩
  replace c5 := Bool.eq_false_iff.mpr c5
  subst c5
  rw [if_neg Bool.false_ne_true] at H
  have H' := Aside0.mk H
  clear H
  have hcz15 := Zz.c5 BK412.out
  have hfz15 := blk_frozen BK412.out
  go_wp2_with (first | ((with_reducible refine gate_callee (f := 66) rfl ?_); refine goesL_ (some 8) rfl rfl Try.func66 (by kernel_rfl) rfl #[.int .i64 a0_1] rfl Zz.g ?_; (with_reducible refine (headgateref06_In.calls a0_1 false _ A4.out).mono ?_); rintro e w' ⟨rfl, ⟨nd, rfl⟩⟩; refine ⟨_, rfl, ?_⟩))
  go_meet
  case rel => exact ⟨_, (true), Zz.q, H', ⟨by first | omega | exact Nat.le_refl _⟩, ⟨Zz.p BK412.out⟩, ⟨Zz.i HB.out⟩⟩
 clear HC2
 (try clear c1);(try clear p2);(try clear c5);(try clear c6);(try clear c6b0);(try clear c9);(try clear c11);(try clear hcz12);(try clear hcz13);(try clear hcz14);(try clear hcz15);(try clear hcz7);(try clear hfz12);(try clear hfz13);(try clear hfz14);(try clear hfz15);(try clear hfz7)
 obtain ⟨kq, x32_1, rfl, HA, HJ1, BK412, HB⟩ := hcut
 cases kq with
 | zero => exact absurd HA.out (by simp [headgateref06_May.j0])
 | succ kj1 =>
  have H := HA.out
  clear HA
  simp only [headgateref06_May.j0] at H
  by_cases c16 : x32_1 = true
  ·subst c16
   rw [if_pos rfl] at H
   obtain rfl := Option.some.inj H
   go_wp2
   go_ret
   exact ⟨Zr.e, Zz.i HB.out⟩
  replace c16 := Bool.eq_false_iff.mpr c16
  subst c16
  rw [if_neg Bool.false_ne_true] at H
  have H' := Aside0.mk H
  clear H
  go_wp2
  go_loopg [3] kj1 (fun kq v3 w' => ∃ (x3_2 : Int), v3 = .int .i64 x3_2 ∧ Aside0 (headgateref06_May.l0 kq x3_2 a0_0 a0_1 a0_2 a0_3 l0_4 = some r) ∧ Aside0 (kq ≤ kj1) ∧ Aside0 (w'.heap[gb412]? = some (.cells #[.int .i64 a0_0, .int .i64 a0_1, .int .i64 a0_2, .int .i64 a0_3, (.slice A0_4 l0_4.length c0_4)] 41 (0, 0))) ∧ Aside0 (Below w.heap.size w w'))
  case atStart => exact ⟨(0), Zz.q, H', ⟨Nat.le_refl _⟩, ⟨Zz.p BK412.out⟩, ⟨Zz.i HB.out⟩⟩
  case round =>
   clear H'
   (try clear c1);(try clear p2);(try clear c5);(try clear c6);(try clear c6b0);(try clear c9);(try clear c11);(try clear c16);(try clear hcz12);(try clear hcz13);(try clear hcz14);(try clear hcz15);(try clear hcz7);(try clear hfz12);(try clear hfz13);(try clear hfz14);(try clear hfz15);(try clear hfz7)
   obtain ⟨x3_2, rfl, HA, HK2, BK412, HB⟩ := hrel
   cases gk with
   | zero => exact absurd HA.out (by simp [headgateref06_May.l0])
   | succ k2 =>
    have H := HA.out
    clear HA
    simp only [headgateref06_May.l0] at H
    by_cases c17 : x3_2 < (l0_4.length : Int)
    ·rw [if_pos c17] at H
     have c17b0 : decide (x3_2 < (l0_4.length : Int)) = true := decide_eq_true c17
     clear c17
     by_cases c18 : 0 ≤ x3_2
     ·rw [if_pos c18] at H
      have c18b0 : decide (0 ≤ x3_2) = true := decide_eq_true c18
      clear c18
      replace H := Option.bind_eq_some_iff.mp H
      obtain ⟨t417, A190, H⟩ := H
      try dsimp only at H
      have A19 := Aside0.mk A190
      clear A190
      by_cases c20 : t417 = true
      ·subst c20
       rw [if_pos rfl] at H
       have H' := Aside0.mk H
       clear H
       have hcz21 := Zz.c5 BK412.out
       have hfz21 := blk_frozen BK412.out
       have p416 : 0 ≤ (x3_2 : Int) := of_decide_eq_true (by first | (with_reducible assumption) | assumption)
       have q416 : x3_2 < (l0_4.length : Int) := of_decide_eq_true (by first | (with_reducible assumption) | assumption)
       obtain ⟨ad416, e416, hx416_0, hx416_1, hx416_2⟩ := at_T57 HR0_4.out x3_2 p416 q416
       cases e416
       replace hx416_0 := (HB.out.cell (World.block_lt_of_cell? w _ hx416_0)).trans hx416_0
       replace hx416_1 := (HB.out.cell (World.block_lt_of_cell? w _ hx416_1)).trans hx416_1
       replace hx416_2 := (HB.out.cell (World.block_lt_of_cell? w _ hx416_2)).trans hx416_2
       replace p416 := eq_true p416
       replace q416 := eq_true q416
       go_wp2_with (first | ((with_reducible refine gate_callee (f := 59) rfl ?_); refine goesL_ (some 45) rfl rfl Try.func59 (by kernel_rfl) rfl #[.agg #[.int .i64 ((rd_T57 l0_4 x3_2).f0), .int .i64 ((rd_T57 l0_4 x3_2).f1), .string ((rd_T57 l0_4 x3_2).f2)]] rfl Zz.g ?_; (with_reducible refine (headgateref06_MayRecord.calls ((rd_T57 l0_4 x3_2).f0) ((rd_T57 l0_4 x3_2).f1) ((rd_T57 l0_4 x3_2).f2) true _ A19.out).mono ?_); rintro e w22 ⟨rfl, hb⟩; refine ⟨_, rfl, ?_⟩; replace BK412 := Aside0.mk (Zz.bb BK412.out hb); replace HB := Aside0.mk (below_step (Zz.i HB.out) hb); (try clear hb)))
       go_roundg k2
       case measure => have := HJ1.out; have := HK2.out; omega
       case rel => exact ⟨(wrap64 (x3_2 + 1)), Zz.q, H', ⟨by have := HJ1.out; have := HK2.out; omega⟩, ⟨Zz.p BK412.out⟩, ⟨Zz.i HB.out⟩⟩
      replace c20 := Bool.eq_false_iff.mpr c20
      subst c20
      rw [if_neg Bool.false_ne_true] at H
      obtain rfl := Option.some.inj H
      have hcz23 := Zz.c5 BK412.out
      have hfz23 := blk_frozen BK412.out
      have p416 : 0 ≤ (x3_2 : Int) := of_decide_eq_true (by first | (with_reducible assumption) | assumption)
      have q416 : x3_2 < (l0_4.length : Int) := of_decide_eq_true (by first | (with_reducible assumption) | assumption)
      obtain ⟨ad416, e416, hx416_0, hx416_1, hx416_2⟩ := at_T57 HR0_4.out x3_2 p416 q416
      cases e416
      replace hx416_0 := (HB.out.cell (World.block_lt_of_cell? w _ hx416_0)).trans hx416_0
      replace hx416_1 := (HB.out.cell (World.block_lt_of_cell? w _ hx416_1)).trans hx416_1
      replace hx416_2 := (HB.out.cell (World.block_lt_of_cell? w _ hx416_2)).trans hx416_2
      replace p416 := eq_true p416
      replace q416 := eq_true q416
      go_wp2_with (first | ((with_reducible refine gate_callee (f := 59) rfl ?_); refine goesL_ (some 45) rfl rfl Try.func59 (by kernel_rfl) rfl #[.agg #[.int .i64 ((rd_T57 l0_4 x3_2).f0), .int .i64 ((rd_T57 l0_4 x3_2).f1), .string ((rd_T57 l0_4 x3_2).f2)]] rfl Zz.g ?_; (with_reducible refine (headgateref06_MayRecord.calls ((rd_T57 l0_4 x3_2).f0) ((rd_T57 l0_4 x3_2).f1) ((rd_T57 l0_4 x3_2).f2) false _ A19.out).mono ?_); rintro e w24 ⟨rfl, hb⟩; refine ⟨_, rfl, ?_⟩; replace BK412 := Aside0.mk (Zz.bb BK412.out hb); replace HB := Aside0.mk (below_step (Zz.i HB.out) hb); (try clear hb)))
      go_ret
      exact ⟨Zr.e, Zz.i HB.out⟩
     rw [if_neg c18] at H
     exact absurd H (by simp)
    rw [if_neg c17] at H
    have c17b0 : decide (x3_2 < (l0_4.length : Int)) = false := decide_eq_false c17
    clear c17
    have HC25 := Aside0.mk H
    clear H
    have hcz26 := Zz.c5 BK412.out
    have hfz26 := blk_frozen BK412.out
    go_upto_region 8 with (fail)
    go_cut [4] (fun v4 wc => ∃ (kq : Nat) (x4_24 : Bool), v4 = .bool x4_24 ∧ Aside0 (headgateref06_May.j2 kq x4_24 a0_0 a0_1 a0_2 a0_3 l0_4 = some r) ∧ Aside0 (kq ≤ k2) ∧ Aside0 (wc.heap[gb412]? = some (.cells #[.int .i64 a0_0, .int .i64 a0_1, .int .i64 a0_2, .int .i64 a0_3, (.slice A0_4 l0_4.length c0_4)] 41 (0, 0))) ∧ Aside0 (Below w.heap.size w wc))
    case first =>
     have H := HC25.out
     clear HC25
     by_cases c27 : a0_1 > 0
     ·rw [if_pos c27] at H
      have c27b0 : decide (0 < a0_1) = true := decide_eq_true c27
      clear c27
      (first | rw [c27b0] | rw [c27b9] | (simp only [i64_w, i32_w]; rw [c27b0]) | skip)
      have H' := Aside0.mk H
      clear H
      have hcz28 := Zz.c5 BK412.out
      have hfz28 := blk_frozen BK412.out
      go_wp2
      go_meet
      case rel => exact ⟨_, (decide (a0_2 > 0)), Zz.q, H', ⟨by have := HJ1.out; have := HK2.out; first | omega | exact Nat.le_refl _⟩, ⟨Zz.p BK412.out⟩, ⟨Zz.i HB.out⟩⟩
     rw [if_neg c27] at H
     have c27b0 : decide (0 < a0_1) = false := decide_eq_false c27
     clear c27
     (first | rw [c27b0] | rw [c27b9] | (simp only [i64_w, i32_w]; rw [c27b0]) | skip)
     have H' := Aside0.mk H
     clear H
     have hcz29 := Zz.c5 BK412.out
     have hfz29 := blk_frozen BK412.out
     go_wp2
     go_meet
     case rel => exact ⟨_, (false), Zz.q, H', ⟨by have := HJ1.out; have := HK2.out; first | omega | exact Nat.le_refl _⟩, ⟨Zz.p BK412.out⟩, ⟨Zz.i HB.out⟩⟩
    clear HC25
    (try clear c1);(try clear c2);(try clear p2);(try clear p4);(try clear q4);(try clear hx4);(try clear c5);(try clear c6);(try clear c6b0);(try clear p6);(try clear c9);(try clear c11);(try clear c16);(try clear c17);(try clear c17b0);(try clear c18);(try clear c18b0);(try clear c20);(try clear c27);(try clear c27b0);(try clear hcz12);(try clear hcz13);(try clear hcz14);(try clear hcz15);(try clear hcz21);(try clear hcz23);(try clear hcz26);(try clear hcz28);(try clear hcz29);(try clear hcz7);(try clear hfz12);(try clear hfz13);(try clear hfz14);(try clear hfz15);(try clear hfz21);(try clear hfz23);(try clear hfz26);(try clear hfz28);(try clear hfz29);(try clear hfz7);(try clear hx416_0);(try clear hx416_1);(try clear hx416_2);(try clear p416);(try clear q416)
    obtain ⟨kq, x4_24, rfl, HA, HJ24, BK412, HB⟩ := hcut
    cases kq with
    | zero => exact absurd HA.out (by simp [headgateref06_May.j2])
    | succ kj24 =>
     have H := HA.out
     clear HA
     simp only [headgateref06_May.j2] at H
     have HC30 := Aside0.mk H
     clear H
     go_upto_region 9 with (fail)
     go_cut [5] (fun v5 wc => ∃ (kq : Nat) (x5_29 : Bool), v5 = .bool x5_29 ∧ Aside0 (headgateref06_May.j3 kq x4_24 x5_29 a0_0 a0_1 a0_2 a0_3 l0_4 = some r) ∧ Aside0 (kq ≤ kj24) ∧ Aside0 (wc.heap[gb412]? = some (.cells #[.int .i64 a0_0, .int .i64 a0_1, .int .i64 a0_2, .int .i64 a0_3, (.slice A0_4 l0_4.length c0_4)] 41 (0, 0))) ∧ Aside0 (Below w.heap.size w wc))
     case first =>
      have H := HC30.out
      clear HC30
      by_cases c31 : a0_1 = 0
      ·rw [if_pos c31] at H
       obtain ⟨c31b0, c31b1⟩ := Zr.y c31
       clear c31
       (first | rw [c31b0] | rw [c31b9] | (simp only [i64_w, i32_w]; rw [c31b0]) | skip)
       by_cases c32 : a0_2 = 0
       ·rw [if_pos c32] at H
        obtain ⟨c32b0, c32b1⟩ := Zr.y c32
        clear c32
        have H' := Aside0.mk H
        clear H
        have hcz33 := Zz.c5 BK412.out
        have hfz33 := blk_frozen BK412.out
        go_wp2
        go_meet
        case rel => exact ⟨_, ((a0_3 == 0)), Zz.q, H', ⟨by have := HJ1.out; have := HK2.out; have := HJ24.out; first | omega | exact Nat.le_refl _⟩, ⟨Zz.p BK412.out⟩, ⟨Zz.i HB.out⟩⟩
       rw [if_neg c32] at H
       obtain ⟨c32b0, c32b1⟩ := Zr.n c32
       have H' := Aside0.mk H
       clear H
       have hcz34 := Zz.c5 BK412.out
       have hfz34 := blk_frozen BK412.out
       go_wp2
       go_meet
       case rel => exact ⟨_, (false), Zz.q, H', ⟨by have := HJ1.out; have := HK2.out; have := HJ24.out; first | omega | exact Nat.le_refl _⟩, ⟨Zz.p BK412.out⟩, ⟨Zz.i HB.out⟩⟩
      rw [if_neg c31] at H
      obtain ⟨c31b0, c31b1⟩ := Zr.n c31
      (first | rw [c31b0] | rw [c31b9] | (simp only [i64_w, i32_w]; rw [c31b0]) | skip)
      have H' := Aside0.mk H
      clear H
      have hcz35 := Zz.c5 BK412.out
      have hfz35 := blk_frozen BK412.out
      go_wp2
      go_meet
      case rel => exact ⟨_, (false), Zz.q, H', ⟨by have := HJ1.out; have := HK2.out; have := HJ24.out; first | omega | exact Nat.le_refl _⟩, ⟨Zz.p BK412.out⟩, ⟨Zz.i HB.out⟩⟩
     clear HC30
     (try clear c1);(try clear c2);(try clear p2);(try clear c3);(try clear p4);(try clear q4);(try clear hx4);(try clear c5);(try clear c6);(try clear c6b0);(try clear p6);(try clear c9);(try clear c11);(try clear c16);(try clear c17);(try clear c17b0);(try clear c18);(try clear c18b0);(try clear c20);(try clear c27);(try clear c27b0);(try clear c31);(try clear c31b0);(try clear c31b1);(try clear c32);(try clear c32b0);(try clear c32b1);(try clear hcz12);(try clear hcz13);(try clear hcz14);(try clear hcz15);(try clear hcz21);(try clear hcz23);(try clear hcz26);(try clear hcz28);(try clear hcz29);(try clear hcz33);(try clear hcz34);(try clear hcz35);(try clear hcz7);(try clear hfz12);(try clear hfz13);(try clear hfz14);(try clear hfz15);(try clear hfz21);(try clear hfz23);(try clear hfz26);(try clear hfz28);(try clear hfz29);(try clear hfz33);(try clear hfz34);(try clear hfz35);(try clear hfz7);(try clear hx416_0);(try clear hx416_1);(try clear hx416_2);(try clear p416);(try clear q416)
     obtain ⟨kq, x5_29, rfl, HA, HJ29, BK412, HB⟩ := hcut
     cases kq with
     | zero => exact absurd HA.out (by simp [headgateref06_May.j3])
     | succ kj29 =>
      have H := HA.out
      clear HA
      simp only [headgateref06_May.j3] at H
      by_cases c36 : a0_0 = 1
      ·rw [if_pos c36] at H
       obtain ⟨c36b0, c36b1⟩ := Zr.y c36
       clear c36
       by_cases c37 : (l0_4.length : Int) > 0
       ·rw [if_pos c37] at H
        have c37b0 : decide (0 < (l0_4.length : Int)) = true := decide_eq_true c37
        have c37b1 : decide (0 < l0_4.length) = true := decide_eq_true (by omega)
        clear c37
        by_cases c38 : x4_24 = true
        ·subst c38
         rw [if_pos rfl] at H
         obtain rfl := Option.some.inj H
         have hcz39 := Zz.c5 BK412.out
         have hfz39 := blk_frozen BK412.out
         go_wp2
         go_ret
         exact ⟨Zr.e, Zz.i HB.out⟩
        replace c38 := Bool.eq_false_iff.mpr c38
        subst c38
        rw [if_neg Bool.false_ne_true] at H
        obtain rfl := Option.some.inj H
        have hcz40 := Zz.c5 BK412.out
        have hfz40 := blk_frozen BK412.out
        go_wp2
        go_ret
        exact ⟨Zr.e, Zz.i HB.out⟩
       rw [if_neg c37] at H
       have c37b0 : decide (0 < (l0_4.length : Int)) = false := decide_eq_false c37
       have c37b1 : decide (0 < l0_4.length) = false := decide_eq_false (by omega)
       clear c37
       obtain rfl := Option.some.inj H
       have hcz41 := Zz.c5 BK412.out
       have hfz41 := blk_frozen BK412.out
       go_wp2
       go_ret
       exact ⟨Zr.e, Zz.i HB.out⟩
      rw [if_neg c36] at H
      obtain ⟨c36b0, c36b1⟩ := Zr.n c36
      by_cases c42 : a0_0 = 2
      ·rw [if_pos c42] at H
       obtain ⟨c42b0, c42b1⟩ := Zr.y c42
       clear c42
       by_cases c43 : (l0_4.length : Int) > 0
       ·rw [if_pos c43] at H
        have c43b0 : decide (0 < (l0_4.length : Int)) = true := decide_eq_true c43
        have c43b1 : decide (0 < l0_4.length) = true := decide_eq_true (by omega)
        clear c43
        obtain rfl := Option.some.inj H
        have hcz44 := Zz.c5 BK412.out
        have hfz44 := blk_frozen BK412.out
        go_wp2
        go_ret
        exact ⟨Zr.e, Zz.i HB.out⟩
       rw [if_neg c43] at H
       have c43b0 : decide (0 < (l0_4.length : Int)) = false := decide_eq_false c43
       have c43b1 : decide (0 < l0_4.length) = false := decide_eq_false (by omega)
       clear c43
       obtain rfl := Option.some.inj H
       have hcz45 := Zz.c5 BK412.out
       have hfz45 := blk_frozen BK412.out
       go_wp2
       go_ret
       exact ⟨Zr.e, Zz.i HB.out⟩
      rw [if_neg c42] at H
      obtain ⟨c42b0, c42b1⟩ := Zr.n c42
      by_cases c46 : a0_0 = 3
      ·rw [if_pos c46] at H
       obtain ⟨c46b0, c46b1⟩ := Zr.y c46
       clear c46
       by_cases c47 : (l0_4.length : Int) = 0
       ·rw [if_pos c47] at H
        obtain ⟨c47b0, c47b1⟩ := Zr.y c47
        clear c47
        by_cases c48 : x4_24 = true
        ·subst c48
         rw [if_pos rfl] at H
         obtain rfl := Option.some.inj H
         have hcz49 := Zz.c5 BK412.out
         have hfz49 := blk_frozen BK412.out
         go_wp2
         go_ret
         exact ⟨Zr.e, Zz.i HB.out⟩
        replace c48 := Bool.eq_false_iff.mpr c48
        subst c48
        rw [if_neg Bool.false_ne_true] at H
        obtain rfl := Option.some.inj H
        have hcz50 := Zz.c5 BK412.out
        have hfz50 := blk_frozen BK412.out
        go_wp2
        go_ret
        exact ⟨Zr.e, Zz.i HB.out⟩
       rw [if_neg c47] at H
       obtain ⟨c47b0, c47b1⟩ := Zr.n c47
       have c47b2 : ¬ (l0_4 = []) := fun h_ => c47 (by rw [h_]; rfl)
       obtain rfl := Option.some.inj H
       have hcz51 := Zz.c5 BK412.out
       have hfz51 := blk_frozen BK412.out
       go_wp2
       go_ret
       exact ⟨Zr.e, Zz.i HB.out⟩
      rw [if_neg c46] at H
      obtain ⟨c46b0, c46b1⟩ := Zr.n c46
      by_cases c52 : a0_0 = 4
      ·rw [if_pos c52] at H
       obtain ⟨c52b0, c52b1⟩ := Zr.y c52
       clear c52
       by_cases c53 : (l0_4.length : Int) = 0
       ·rw [if_pos c53] at H
        obtain ⟨c53b0, c53b1⟩ := Zr.y c53
        clear c53
        by_cases c54 : x4_24 = true
        ·subst c54
         rw [if_pos rfl] at H
         obtain rfl := Option.some.inj H
         have hcz55 := Zz.c5 BK412.out
         have hfz55 := blk_frozen BK412.out
         go_wp2
         go_ret
         exact ⟨Zr.e, Zz.i HB.out⟩
        replace c54 := Bool.eq_false_iff.mpr c54
        subst c54
        rw [if_neg Bool.false_ne_true] at H
        obtain rfl := Option.some.inj H
        have hcz56 := Zz.c5 BK412.out
        have hfz56 := blk_frozen BK412.out
        go_wp2
        go_ret
        exact ⟨Zr.e, Zz.i HB.out⟩
       rw [if_neg c53] at H
       obtain ⟨c53b0, c53b1⟩ := Zr.n c53
       have c53b2 : ¬ (l0_4 = []) := fun h_ => c53 (by rw [h_]; rfl)
       obtain rfl := Option.some.inj H
       have hcz57 := Zz.c5 BK412.out
       have hfz57 := blk_frozen BK412.out
       go_wp2
       go_ret
       exact ⟨Zr.e, Zz.i HB.out⟩
      rw [if_neg c52] at H
      obtain ⟨c52b0, c52b1⟩ := Zr.n c52
      obtain rfl := Option.some.inj H
      have hcz58 := Zz.c5 BK412.out
      have hfz58 := blk_frozen BK412.out
      go_wp2
      go_ret
      exact ⟨Zr.e, Zz.i HB.out⟩

end Go.Proofs.Ytikbpjdgihheiaa.P
end
section
namespace Go.Proofs.Ytikbpjdgihheiaa.P
open Go.RowKit Go.Proofs.YtikbpjdgihheiaaW.PrintWords Go.Proofs.YtikbpjdgihheiaaW.PrintLast Go.Proofs.YtikbpjdgihheiaaW.PrintMore
attribute [local go_sem] max2_int min2_int max_two min_two max_three min_three max_four min_four   -- for this text's walks alone
attribute [local go_sem ↓] Kp.LDAsk_in
attribute [local go_sem] Kp.LDAsk_run
set_option linter.unusedVariables false
set_option linter.unusedSimpArgs false

/-! ### headgateref18_MayAsk: function 43 -/
mutual
def headgateref18_MayAsk.j0 : Nat → List Int → Bool → Int → Int → Int → Int → Int → Int → Int → Int → Int → Int → Int → Int → Bool → Int → Int → Int → Int → List (S57) → Option (Bool)
  | 0, _, _, _, _, _, _, _, _, _, _, _, _, _, _, _, _, _, _, _, _ => none
  | k + 1, x3, x20, x419000, x419001, x419002, x419003, x419004, x419005, x419006, x419007, x419008, x419009, x419010, x419011, x419012, x419013, x419014, x419015, x419016, x419017 => if x20 = true then (some false) else ((headgateref18_list.f x419000 x419001 x419002 x419003 x419004 x419005 x419006 x419007 x419008 x419009 x419010 x419011 x419012 x419013 x419014 x419015 x419016 x419017).bind fun t426 => (headgateref18_MayAsk.l0 k x3 t426 0 x419000 x419001 x419002 x419003 x419004 x419005 x419006 x419007 x419008 x419009 x419010 x419011 x419012 x419013 x419014 x419015 x419016 x419017))
def headgateref18_MayAsk.l0 : Nat → List Int → List Int → Int → Int → Int → Int → Int → Int → Int → Int → Int → Int → Int → Int → Int → Bool → Int → Int → Int → Int → List (S57) → Option (Bool)
  | 0, _, _, _, _, _, _, _, _, _, _, _, _, _, _, _, _, _, _, _, _, _ => none
  | k + 1, x3, x4, x5, x419000, x419001, x419002, x419003, x419004, x419005, x419006, x419007, x419008, x419009, x419010, x419011, x419012, x419013, x419014, x419015, x419016, x419017 => if x5 < (x4.length : Int) then (headgateref18_MayAsk.l1 k x3 x4 x5 false 0 x419000 x419001 x419002 x419003 x419004 x419005 x419006 x419007 x419008 x419009 x419010 x419011 x419012 x419013 x419014 x419015 x419016 x419017) else (if x419000 = 3 then ((headgateref18_in.f k x4).bind fun t431 => (if t431 = true then ((headgateref06_May.f k x419013 x419014 x419015 x419016 x419017).bind fun t432 => (some t432)) else (some false))) else ((headgateref18_in.f k x4).bind fun t433 => (if t433 = true then ((headgateref06_Same.f k x419013 x419014 x419015 x419016 x419017 0 0 0 0 ([] : List (S57))).bind fun t434 => (some t434)) else (some false))))
def headgateref18_MayAsk.l1 : Nat → List Int → List Int → Int → Bool → Int → Int → Int → Int → Int → Int → Int → Int → Int → Int → Int → Int → Int → Bool → Int → Int → Int → Int → List (S57) → Option (Bool)
  | 0, _, _, _, _, _, _, _, _, _, _, _, _, _, _, _, _, _, _, _, _, _, _, _ => none
  | k + 1, x3, x4, x5, x6, x7, x419000, x419001, x419002, x419003, x419004, x419005, x419006, x419007, x419008, x419009, x419010, x419011, x419012, x419013, x419014, x419015, x419016, x419017 => if x7 < (x3.length : Int) then (if x6 = true then (headgateref18_MayAsk.l1 k x3 x4 x5 true (wrap64 (x7 + 1)) x419000 x419001 x419002 x419003 x419004 x419005 x419006 x419007 x419008 x419009 x419010 x419011 x419012 x419013 x419014 x419015 x419016 x419017) else (if 0 ≤ x7 then (headgateref18_MayAsk.l1 k x3 x4 x5 ((rd x3 x7) == x5) (wrap64 (x7 + 1)) x419000 x419001 x419002 x419003 x419004 x419005 x419006 x419007 x419008 x419009 x419010 x419011 x419012 x419013 x419014 x419015 x419016 x419017) else (none))) else (if x6 = true then (headgateref18_MayAsk.l0 k x3 x4 (wrap64 (x5 + 1)) x419000 x419001 x419002 x419003 x419004 x419005 x419006 x419007 x419008 x419009 x419010 x419011 x419012 x419013 x419014 x419015 x419016 x419017) else (if 0 ≤ x5 then (if x5 < (x4.length : Int) then (if (rd x4 x5) = 0 then (headgateref18_MayAsk.l0 k x3 x4 (wrap64 (x5 + 1)) x419000 x419001 x419002 x419003 x419004 x419005 x419006 x419007 x419008 x419009 x419010 x419011 x419012 x419013 x419014 x419015 x419016 x419017) else (some false)) else (none)) else (none)))
end
def headgateref18_MayAsk.f (k : Nat) (a0_0 : Int) (a0_1 : Int) (a0_2 : Int) (a0_3 : Int) (a0_4 : Int) (a0_5 : Int) (a0_6 : Int) (a0_7 : Int) (a0_8 : Int) (a0_9 : Int) (a0_10 : Int) (a0_11 : Int) (a0_12 : Bool) (a0_13 : Int) (a0_14 : Int) (a0_15 : Int) (a0_16 : Int) (l0_17 : List (S57)) : Option (Bool) := (headgateref18_which.f k a0_0).bind fun t419 => (if (t419.length : Int) = 0 then (headgateref18_MayAsk.j0 k t419 true a0_0 a0_1 a0_2 a0_3 a0_4 a0_5 a0_6 a0_7 a0_8 a0_9 a0_10 a0_11 a0_12 a0_13 a0_14 a0_15 a0_16 l0_17) else ((headgateref18_in.f k (([a0_1] : List Int))).bind fun t425 => (headgateref18_MayAsk.j0 k t419 (!t425) a0_0 a0_1 a0_2 a0_3 a0_4 a0_5 a0_6 a0_7 a0_8 a0_9 a0_10 a0_11 a0_12 a0_13 a0_14 a0_15 a0_16 l0_17)))
set_option maxHeartbeats 8000000 in
set_option maxRecDepth 100000 in
theorem headgateref18_MayAsk.calls (k : Nat) (a0_0 : Int) (a0_1 : Int) (a0_2 : Int) (a0_3 : Int) (a0_4 : Int) (a0_5 : Int) (a0_6 : Int) (a0_7 : Int) (a0_8 : Int) (a0_9 : Int) (a0_10 : Int) (a0_11 : Int) (a0_12 : Bool) (a0_13 : Int) (a0_14 : Int) (a0_15 : Int) (a0_16 : Int) (A0_17 : Option Addr) (c0_17 : Nat) (l0_17 : List (S57)) (r : Bool) (w : World) (hr0_17 : Kd.C k57 w A0_17 l0_17.length l0_17) (hc0_17 : l0_17.length ≤ c0_17) (h : headgateref18_MayAsk.f k a0_0 a0_1 a0_2 a0_3 a0_4 a0_5 a0_6 a0_7 a0_8 a0_9 a0_10 a0_11 a0_12 a0_13 a0_14 a0_15 a0_16 l0_17 = some r) :
    Calls Try.prog 43 #[.agg #[.int .i64 a0_0, .int .i64 a0_1, .int .i64 a0_2, .int .i64 a0_3, .int .i64 a0_4, .int .i64 a0_5, .int .i64 a0_6, .int .i64 a0_7, .int .i64 a0_8, .int .i64 a0_9, .int .i64 a0_10, .int .i64 a0_11, .bool a0_12, .int .i64 a0_13, .int .i64 a0_14, .int .i64 a0_15, .int .i64 a0_16, .slice A0_17 l0_17.length c0_17]] w fun e w' => e = .returned (.bool r) ∧ Below w.heap.size w w' := by
 have hu43 := Try.underlying43
 have hu41 := Try.underlying41
 have HR0_17 := Aside0.mk hr0_17
 have HC0_17 := Aside0.mk hc0_17
 clear hr0_17 hc0_17
 have HB := Aside0.mk (Below.refl w.heap.size w)
 have H : ((headgateref18_which.f k a0_0).bind fun t419 => (if (t419.length : Int) = 0 then (headgateref18_MayAsk.j0 k t419 true a0_0 a0_1 a0_2 a0_3 a0_4 a0_5 a0_6 a0_7 a0_8 a0_9 a0_10 a0_11 a0_12 a0_13 a0_14 a0_15 a0_16 l0_17) else ((headgateref18_in.f k (([a0_1] : List Int))).bind fun t425 => (headgateref18_MayAsk.j0 k t419 (!t425) a0_0 a0_1 a0_2 a0_3 a0_4 a0_5 a0_6 a0_7 a0_8 a0_9 a0_10 a0_11 a0_12 a0_13 a0_14 a0_15 a0_16 l0_17)))) = some r := h
 clear h
 replace H := Option.bind_eq_some_iff.mp H
 obtain ⟨t419, A20, H⟩ := H
 try dsimp only at H
 have A2 := Aside0.mk A20
 clear A20
 have HC3 := Aside0.mk H
 clear H
 go_enter Try.func43, Try.ntmps43
 go_upto_region 2 with (first | ((with_reducible refine gate_dst (N := 1) rfl ?_); (try (refine gate_guard (by rfl) ?_; dsimp only)); refine box_event ?hg (N := 1) ?hd (cs := #[.int .i64 a0_0, .int .i64 a0_1, .int .i64 a0_2, .int .i64 a0_3, .int .i64 a0_4, .int .i64 a0_5, .int .i64 a0_6, .int .i64 a0_7, .int .i64 a0_8, .int .i64 a0_9, .int .i64 a0_10, .int .i64 a0_11, .bool a0_12, .int .i64 a0_13, .int .i64 a0_14, .int .i64 a0_15, .int .i64 a0_16, .slice A0_17 l0_17.length c0_17]) (t := 43) ?hr ?_; (case hd => rfl); (case hg => rfl); (case hr => first | (go_simp; done) | (go_simp; rfl)); intro gb418 hg w4 hbox hb; have BK418 := Aside0.mk (hbox); have GW418 := Aside0.mk (Zz.ge hg HB.out); have GE418 := Aside0.mk (Zz.ge hg HB.out); replace HB := Aside0.mk (below_step (Zz.i HB.out) hb); clear hb hbox hg; have hcz5 := Zz.c18 BK418.out; have hfz5 := blk_frozen BK418.out) | ((with_reducible refine gate_callee (f := 44) rfl ?_); refine goesL_ (some 10) rfl rfl Try.func44 (by kernel_rfl) rfl #[.int .i64 a0_0] rfl Zz.g ?_; (with_reducible refine (headgateref18_which.calls k a0_0 t419 _ A2.out).mono ?_); rintro e w6 ⟨v420, rfl, ho0, hb⟩; refine ⟨_, rfl, ?_⟩; have HO421 := Aside0.mk (Kd.R_lower ho0 (below_size (Zz.i HB.out))); replace BK418 := Aside0.mk (Zz.bb BK418.out hb); replace HB := Aside0.mk (below_step (Zz.i HB.out) hb); (try clear hb); (try clear ho0)))
 (try simp only [Act.put, List.setIfInBounds_toArray, List.set_cons_zero, List.set_cons_succ])
 go_cut [20] (fun v20 wc => ∃ (kq : Nat) (x20_2 : Bool), v20 = .bool x20_2 ∧ Aside0 (headgateref18_MayAsk.j0 kq t419 x20_2 a0_0 a0_1 a0_2 a0_3 a0_4 a0_5 a0_6 a0_7 a0_8 a0_9 a0_10 a0_11 a0_12 a0_13 a0_14 a0_15 a0_16 l0_17 = some r) ∧ Aside0 (kq ≤ k) ∧ Aside0 (Kd.R (Kd.int .i64) 3 wc w.heap.size (fun _ => True) v420 t419) ∧ Aside0 (wc.heap[gb418]? = some (.cells #[.int .i64 a0_0, .int .i64 a0_1, .int .i64 a0_2, .int .i64 a0_3, .int .i64 a0_4, .int .i64 a0_5, .int .i64 a0_6, .int .i64 a0_7, .int .i64 a0_8, .int .i64 a0_9, .int .i64 a0_10, .int .i64 a0_11, .bool a0_12, .int .i64 a0_13, .int .i64 a0_14, .int .i64 a0_15, .int .i64 a0_16, (.slice A0_17 l0_17.length c0_17)] 43 (0, 0))) ∧ Aside0 (Below w.heap.size w wc))
 case first =>
  have H := HC3.out
  clear HC3
  by_cases c7 : (t419.length : Int) = 0
  ·rw [if_pos c7] at H
   obtain ⟨c7b0, c7b1⟩ := Zr.y c7
   clear c7
   (first | rw [c7b0] | rw [c7b9] | (simp only [i64_w, i32_w]; rw [c7b0]) | skip)
   have H' := Aside0.mk H
   clear H
   obtain ⟨Ao8, co8, eo8⟩ := Kd.R_slice HO421.out
   subst eo8
   go_wp2
   go_meet
   case rel => exact ⟨_, (true), Zz.q, H', ⟨by first | omega | exact Nat.le_refl _⟩, ⟨Zz.r HO421.out⟩, ⟨Zz.p BK418.out⟩, ⟨Zz.i HB.out⟩⟩
  rw [if_neg c7] at H
  obtain ⟨c7b0, c7b1⟩ := Zr.n c7
  have c7b2 : ¬ (t419 = []) := fun h_ => c7 (by rw [h_]; rfl)
  (first | rw [c7b0] | rw [c7b9] | (simp only [i64_w, i32_w]; rw [c7b0]) | skip)
  obtain ⟨y422, hy422⟩ : ∃ y_ : List Int, y_ = (([a0_1] : List Int)) := ⟨_, rfl⟩
  replace H : ((headgateref18_in.f k y422).bind fun t425 => (headgateref18_MayAsk.j0 k t419 (!t425) a0_0 a0_1 a0_2 a0_3 a0_4 a0_5 a0_6 a0_7 a0_8 a0_9 a0_10 a0_11 a0_12 a0_13 a0_14 a0_15 a0_16 l0_17)) = some r := by first | (rw [hy422]; with_reducible exact H) | (have H2_ := (Option.bind_some _ _).symm.trans H; rw [hy422]; with_reducible exact H2_) | (have H2_ := (Option.bind_some _ _).symm.trans H; with_reducible exact H2_) | with_reducible exact H | (rw [hy422]; exact H) | exact H
  have Ny422 := Aside0.mk hy422
  clear hy422
  replace H := Option.bind_eq_some_iff.mp H
  obtain ⟨t425, A90, H⟩ := H
  try dsimp only at H
  have A9 := Aside0.mk A90
  clear A90
  have H' := Aside0.mk H
  clear H
  obtain ⟨Ao10, co10, eo10⟩ := Kd.R_slice HO421.out
  subst eo10
  have hcz11 := Zz.c18 BK418.out
  have hfz11 := blk_frozen BK418.out
  go_wp2_with (first | ((with_reducible refine gate_dst (N := 17) rfl ?_); (try (refine gate_guard (by rfl) ?_; dsimp only)); refine Kd.R_lit (Kd.int .i64) _ 3 ?hg (N := 17) ?hd (xs := ([a0_1] : List Int)) (inner := [.int .i64 a0_1]) (ok := fun _ => True) (okp := fun _ => True) ?hr ?hp (fun _ hk => hk) trivial (Below.refl _ _) (Nat.le_refl _) (by simp) ?_; (case hd => rfl); (case hg => rfl); (case hr => first | (go_simp; done) | (go_simp; rfl)); (case hp => exact (Reps.one (show Kd.M (Kd.int .i64) _ _ _ a0_1 [.int .i64 a0_1] from rfl) (Reps.none _ _))); intro v423 w12 ho13 hb hg_ hnew_; clear hg_ hnew_; (first | rw [← Ny422.out] at ho13 | (simp only [Int.reduceToNat] at ho13; rw [← Ny422.out] at ho13)); have HO424 := Aside0.mk (Kd.R_lower (Kd.R_new' ho13 (Kd.R_lt (Zz.r HO421.out))) (below_size (Zz.i HB.out))); replace HO421 := Aside0.mk (Kd.R_elder' (Zz.r HO421.out) (Kd.R_base ho13) hb); replace BK418 := Aside0.mk (Zz.bb BK418.out hb); replace HB := Aside0.mk (below_step (Zz.i HB.out) hb); clear hb ho13; obtain ⟨Ao14, co14, eo14⟩ := Kd.R_slice HO424.out; subst eo14) | (go_at_call 58; (with_reducible refine (headgateref18_in.calls k _ _ y422 t425 _ ?side1 ?side2 A9.out).mono ?_); (case side1 => repeat (first | exact (Kd.R_reads' HO424.out).2.2 | (with_reducible refine Kd.C_alloc ?_ _) | (with_reducible refine Kd.C_drewN ?_ _) | (with_reducible refine Kd.C_drew ?_))); (case side2 => exact (Kd.R_reads' HO424.out).2.1); rintro e w' ⟨rfl, ⟨nd, rfl⟩⟩))
  go_meet
  case rel => exact ⟨_, (!t425), Zz.q, H', ⟨by first | omega | exact Nat.le_refl _⟩, ⟨Zz.rt HO421.out⟩, ⟨Zz.p BK418.out⟩, ⟨Zz.i HB.out⟩⟩
 clear HC3
 (try clear p2);(try clear c4);(try clear c7);(try clear c7b0);(try clear c7b1);(try clear c7b2);(try clear hcz11);(try clear hcz5);(try clear hfz11);(try clear hfz5)
 obtain ⟨kq, x20_2, rfl, HA, HJ2, HO_3, BK418, HB⟩ := hcut
 cases kq with
 | zero => exact absurd HA.out (by simp [headgateref18_MayAsk.j0])
 | succ kj2 =>
  have H := HA.out
  clear HA
  simp only [headgateref18_MayAsk.j0] at H
  by_cases c15 : x20_2 = true
  ·subst c15
   rw [if_pos rfl] at H
   obtain rfl := Option.some.inj H
   go_wp2
   go_ret
   exact ⟨Zr.e, Zz.i HB.out⟩
  replace c15 := Bool.eq_false_iff.mpr c15
  subst c15
  rw [if_neg Bool.false_ne_true] at H
  replace H := Option.bind_eq_some_iff.mp H
  obtain ⟨t426, A160, H⟩ := H
  try dsimp only at H
  have A16 := Aside0.mk A160
  clear A160
  have H' := Aside0.mk H
  clear H
  have hcz17 := Zz.c18 BK418.out
  have hfz17 := blk_frozen BK418.out
  go_wp2_with (first | ((with_reducible refine gate_callee (f := 45) rfl ?_); refine goesL_ (some 22) rfl rfl Try.func45 (by kernel_rfl) rfl #[.agg #[.int .i64 a0_0, .int .i64 a0_1, .int .i64 a0_2, .int .i64 a0_3, .int .i64 a0_4, .int .i64 a0_5, .int .i64 a0_6, .int .i64 a0_7, .int .i64 a0_8, .int .i64 a0_9, .int .i64 a0_10, .int .i64 a0_11, .bool a0_12, .int .i64 a0_13, .int .i64 a0_14, .int .i64 a0_15, .int .i64 a0_16, .slice A0_17 l0_17.length c0_17]] rfl Zz.g ?_; (with_reducible refine (headgateref18_list.calls a0_0 a0_1 a0_2 a0_3 a0_4 a0_5 a0_6 a0_7 a0_8 a0_9 a0_10 a0_11 a0_12 a0_13 a0_14 a0_15 a0_16 _ _ l0_17 t426 _ ?side1 ?side2 A16.out).mono ?_); (case side1 => exact Zz.k (Kd.C_below HR0_17.out HB.out)); (case side2 => exact HC0_17.out); rintro e w18 ⟨v427, rfl, ho0, hb⟩; refine ⟨_, rfl, ?_⟩; have HO428 := Aside0.mk (Kd.R_lower (Kd.R_new' ho0 (Kd.R_lt (Zz.r HO_3.out))) (below_size (Zz.i HB.out))); replace HO_3 := Aside0.mk (Kd.R_elder' (Zz.r HO_3.out) (Kd.R_base ho0) hb); replace BK418 := Aside0.mk (Zz.bb BK418.out hb); replace HB := Aside0.mk (below_step (Zz.i HB.out) hb); (try clear hb); (try clear ho0)))
  go_loopg [5] kj2 (fun kq v5 w' => ∃ (x5_2 : Int), v5 = .int .i64 x5_2 ∧ Aside0 (headgateref18_MayAsk.l0 kq t419 t426 x5_2 a0_0 a0_1 a0_2 a0_3 a0_4 a0_5 a0_6 a0_7 a0_8 a0_9 a0_10 a0_11 a0_12 a0_13 a0_14 a0_15 a0_16 l0_17 = some r) ∧ Aside0 (kq ≤ kj2) ∧ Aside0 (Kd.R (Kd.int .i64) 3 w' w.heap.size (fun k_ => some k_ ≠ (v427 : Value).ownBlock) v420 t419) ∧ Aside0 (Kd.R (Kd.int .i64) 3 w' w.heap.size (fun k_ => some k_ ≠ (v420 : Value).ownBlock) v427 t426) ∧ Aside0 (w'.heap[gb418]? = some (.cells #[.int .i64 a0_0, .int .i64 a0_1, .int .i64 a0_2, .int .i64 a0_3, .int .i64 a0_4, .int .i64 a0_5, .int .i64 a0_6, .int .i64 a0_7, .int .i64 a0_8, .int .i64 a0_9, .int .i64 a0_10, .int .i64 a0_11, .bool a0_12, .int .i64 a0_13, .int .i64 a0_14, .int .i64 a0_15, .int .i64 a0_16, (.slice A0_17 l0_17.length c0_17)] 43 (0, 0))) ∧ Aside0 (Below w.heap.size w w'))
  case atStart => exact ⟨(0), Zz.q, H', ⟨Nat.le_refl _⟩, ⟨by (with_reducible repeat (first | apply Kd.R_alloc | apply Kd.R_drewN | apply Kd.R_drew)); exact Kd.R_mono HO_3.out (fun _ hk => hk.2)⟩, ⟨by (with_reducible repeat (first | apply Kd.R_alloc | apply Kd.R_drewN | apply Kd.R_drew)); exact Kd.R_mono HO428.out (fun _ hk => hk.2)⟩, ⟨Zz.p BK418.out⟩, ⟨Zz.i HB.out⟩⟩
  case round =>
   clear H'
   (try clear c1);(try clear p2);(try clear c4);(try clear c7);(try clear c7b0);(try clear c7b1);(try clear c7b2);(try clear c15);(try clear hcz11);(try clear hcz17);(try clear hcz5);(try clear hfz11);(try clear hfz17);(try clear hfz5)
   obtain ⟨x5_2, rfl, HA, HK2, HO_3, HO_4, BK418, HB⟩ := hrel
   cases gk with
   | zero => exact absurd HA.out (by simp [headgateref18_MayAsk.l0])
   | succ k2 =>
    have H := HA.out
    clear HA
    simp only [headgateref18_MayAsk.l0] at H
    by_cases c19 : x5_2 < (t426.length : Int)
    ·rw [if_pos c19] at H
     have c19b0 : decide (x5_2 < (t426.length : Int)) = true := decide_eq_true c19
     clear c19
     have H' := Aside0.mk H
     clear H
     obtain ⟨Ao20, co20, eo20⟩ := Kd.R_slice HO_4.out
     subst eo20
     go_wp2
     go_loopg [6, 7] k2 (fun kq v6 v7 w' => ∃ (x6_3 : Bool) (x7_3 : Int), v6 = .bool x6_3 ∧ v7 = .int .i64 x7_3 ∧ Aside0 (headgateref18_MayAsk.l1 kq t419 t426 x5_2 x6_3 x7_3 a0_0 a0_1 a0_2 a0_3 a0_4 a0_5 a0_6 a0_7 a0_8 a0_9 a0_10 a0_11 a0_12 a0_13 a0_14 a0_15 a0_16 l0_17 = some r) ∧ Aside0 (kq ≤ k2) ∧ Aside0 (Kd.R (Kd.int .i64) 3 w' w.heap.size (fun k_ => some k_ ≠ ((.slice Ao20 t426.length co20) : Value).ownBlock) v420 t419) ∧ Aside0 (Kd.R (Kd.int .i64) 3 w' w.heap.size (fun k_ => some k_ ≠ (v420 : Value).ownBlock) (.slice Ao20 t426.length co20) t426) ∧ Aside0 (w'.heap[gb418]? = some (.cells #[.int .i64 a0_0, .int .i64 a0_1, .int .i64 a0_2, .int .i64 a0_3, .int .i64 a0_4, .int .i64 a0_5, .int .i64 a0_6, .int .i64 a0_7, .int .i64 a0_8, .int .i64 a0_9, .int .i64 a0_10, .int .i64 a0_11, .bool a0_12, .int .i64 a0_13, .int .i64 a0_14, .int .i64 a0_15, .int .i64 a0_16, (.slice A0_17 l0_17.length c0_17)] 43 (0, 0))) ∧ Aside0 (Below w.heap.size w w'))
     case atStart => exact ⟨(false), (0), Zz.q, Zz.q, H', ⟨Nat.le_refl _⟩, ⟨Zz.r HO_3.out⟩, ⟨Zz.r HO_4.out⟩, ⟨Zz.p BK418.out⟩, ⟨Zz.i HB.out⟩⟩
     case round =>
      clear H'
      (try clear c1);(try clear p2);(try clear c4);(try clear c7);(try clear c7b0);(try clear c7b1);(try clear c7b2);(try clear c15);(try clear c19);(try clear c19b0);(try clear hcz11);(try clear hcz17);(try clear hcz5);(try clear hfz11);(try clear hfz17);(try clear hfz5)
      obtain ⟨x6_3, x7_3, rfl, rfl, HA, HK3, HO_3, HO_4, BK418, HB⟩ := hrel
      cases gk with
      | zero => exact absurd HA.out (by simp [headgateref18_MayAsk.l1])
      | succ k3 =>
       have H := HA.out
       clear HA
       simp only [headgateref18_MayAsk.l1] at H
       by_cases c21 : x7_3 < (t419.length : Int)
       ·rw [if_pos c21] at H
        have c21b0 : decide (x7_3 < (t419.length : Int)) = true := decide_eq_true c21
        clear c21
        by_cases c22 : x6_3 = true
        ·subst c22
         rw [if_pos rfl] at H
         have H' := Aside0.mk H
         clear H
         obtain ⟨Ao23, co23, eo23⟩ := Kd.R_slice HO_3.out
         subst eo23
         go_wp2
         go_roundg k3
         case measure => have := HJ2.out; have := HK2.out; have := HK3.out; omega
         case rel => exact ⟨(true), (wrap64 (x7_3 + 1)), Zz.q, Zz.q, H', ⟨by have := HJ2.out; have := HK2.out; have := HK3.out; omega⟩, ⟨Zz.r HO_3.out⟩, ⟨Zz.r HO_4.out⟩, ⟨Zz.p BK418.out⟩, ⟨Zz.i HB.out⟩⟩
        replace c22 := Bool.eq_false_iff.mpr c22
        subst c22
        rw [if_neg Bool.false_ne_true] at H
        by_cases c24 : 0 ≤ x7_3
        ·rw [if_pos c24] at H
         have c24b0 : decide (0 ≤ x7_3) = true := decide_eq_true c24
         clear c24
         have H' := Aside0.mk H
         clear H
         obtain ⟨Ao25, co25, eo25⟩ := Kd.R_slice HO_3.out
         subst eo25
         have p429 : 0 ≤ (x7_3 : Int) := of_decide_eq_true (by first | (with_reducible assumption) | assumption)
         have q429 : x7_3 < (t419.length : Int) := of_decide_eq_true (by first | (with_reducible assumption) | assumption)
         obtain ⟨ad429, e429, hx429_0⟩ := Kd.at_int (Kd.R_reads' HO_3.out).2.2 x7_3 p429 q429
         cases e429
         replace p429 := eq_true p429
         replace q429 := eq_true q429
         go_wp2
         go_roundg k3
         case measure => have := HJ2.out; have := HK2.out; have := HK3.out; omega
         case rel => exact ⟨(((rd t419 x7_3) == x5_2)), (wrap64 (x7_3 + 1)), Zz.q, Zz.q, H', ⟨by have := HJ2.out; have := HK2.out; have := HK3.out; omega⟩, ⟨Zz.r HO_3.out⟩, ⟨Zz.r HO_4.out⟩, ⟨Zz.p BK418.out⟩, ⟨Zz.i HB.out⟩⟩
        rw [if_neg c24] at H
        exact absurd H (by simp)
       rw [if_neg c21] at H
       have c21b0 : decide (x7_3 < (t419.length : Int)) = false := decide_eq_false c21
       clear c21
       by_cases c26 : x6_3 = true
       ·subst c26
        rw [if_pos rfl] at H
        have H' := Aside0.mk H
        clear H
        obtain ⟨Ao27, co27, eo27⟩ := Kd.R_slice HO_3.out
        subst eo27
        go_wp2
        go_roundg k3
        case measure => have := HJ2.out; have := HK2.out; have := HK3.out; omega
        case rel => exact ⟨(wrap64 (x5_2 + 1)), Zz.q, H', ⟨by have := HJ2.out; have := HK2.out; have := HK3.out; omega⟩, ⟨Zz.r HO_3.out⟩, ⟨Zz.r HO_4.out⟩, ⟨Zz.p BK418.out⟩, ⟨Zz.i HB.out⟩⟩
       replace c26 := Bool.eq_false_iff.mpr c26
       subst c26
       rw [if_neg Bool.false_ne_true] at H
       by_cases c28 : 0 ≤ x5_2
       ·rw [if_pos c28] at H
        have c28b0 : decide (0 ≤ x5_2) = true := decide_eq_true c28
        clear c28
        by_cases c29 : x5_2 < (t426.length : Int)
        ·rw [if_pos c29] at H
         have c29b0 : decide (x5_2 < (t426.length : Int)) = true := decide_eq_true c29
         clear c29
         by_cases c30 : (rd t426 x5_2) = 0
         ·rw [if_pos c30] at H
          obtain ⟨c30b0, c30b1⟩ := Zr.y c30
          clear c30
          have H' := Aside0.mk H
          clear H
          obtain ⟨Ao31, co31, eo31⟩ := Kd.R_slice HO_3.out
          subst eo31
          have p430 : 0 ≤ (x5_2 : Int) := of_decide_eq_true (by first | (with_reducible assumption) | assumption)
          have q430 : x5_2 < (t426.length : Int) := of_decide_eq_true (by first | (with_reducible assumption) | assumption)
          obtain ⟨ad430, e430, hx430_0⟩ := Kd.at_int (Kd.R_reads' HO_4.out).2.2 x5_2 p430 q430
          cases e430
          replace p430 := eq_true p430
          replace q430 := eq_true q430
          go_wp2
          go_roundg k3
          case measure => have := HJ2.out; have := HK2.out; have := HK3.out; omega
          case rel => exact ⟨(wrap64 (x5_2 + 1)), Zz.q, H', ⟨by have := HJ2.out; have := HK2.out; have := HK3.out; omega⟩, ⟨Zz.r HO_3.out⟩, ⟨Zz.r HO_4.out⟩, ⟨Zz.p BK418.out⟩, ⟨Zz.i HB.out⟩⟩
         rw [if_neg c30] at H
         obtain ⟨c30b0, c30b1⟩ := Zr.n c30
         obtain rfl := Option.some.inj H
         obtain ⟨Ao32, co32, eo32⟩ := Kd.R_slice HO_3.out
         subst eo32
         have p430 : 0 ≤ (x5_2 : Int) := of_decide_eq_true (by first | (with_reducible assumption) | assumption)
         have q430 : x5_2 < (t426.length : Int) := of_decide_eq_true (by first | (with_reducible assumption) | assumption)
         obtain ⟨ad430, e430, hx430_0⟩ := Kd.at_int (Kd.R_reads' HO_4.out).2.2 x5_2 p430 q430
         cases e430
         replace p430 := eq_true p430
         replace q430 := eq_true q430
         go_wp2
         go_ret
         exact ⟨Zr.e, Zz.i HB.out⟩
        rw [if_neg c29] at H
        exact absurd H (by simp)
       rw [if_neg c28] at H
       exact absurd H (by simp)
    rw [if_neg c19] at H
    have c19b0 : decide (x5_2 < (t426.length : Int)) = false := decide_eq_false c19
    clear c19
    by_cases c33 : a0_0 = 3
    ·rw [if_pos c33] at H
     obtain ⟨c33b0, c33b1⟩ := Zr.y c33
     clear c33
     replace H := Option.bind_eq_some_iff.mp H
     obtain ⟨t431, A340, H⟩ := H
     try dsimp only at H
     have A34 := Aside0.mk A340
     clear A340
     by_cases c35 : t431 = true
     ·subst c35
      rw [if_pos rfl] at H
      replace H := Option.bind_eq_some_iff.mp H
      obtain ⟨t432, A360, H⟩ := H
      try dsimp only at H
      have A36 := Aside0.mk A360
      clear A360
      obtain rfl := Option.some.inj H
      obtain ⟨Ao37, co37, eo37⟩ := Kd.R_slice HO_4.out
      subst eo37
      have hcz38 := Zz.c18 BK418.out
      have hfz38 := blk_frozen BK418.out
      go_wp2_with (first | ((with_reducible refine gate_callee (f := 58) rfl ?_); refine goesL_ (some 57) rfl rfl Try.func58 (by kernel_rfl) rfl #[.slice Ao37 t426.length co37] rfl Zz.g ?_; (with_reducible refine (headgateref18_in.calls k2 _ _ t426 true _ ?side1 ?side2 A34.out).mono ?_); (case side1 => repeat (first | exact (Kd.R_reads' HO_4.out).2.2 | (with_reducible refine Kd.C_alloc ?_ _) | (with_reducible refine Kd.C_drewN ?_ _) | (with_reducible refine Kd.C_drew ?_))); (case side2 => exact (Kd.R_reads' HO_4.out).2.1); rintro e w' ⟨rfl, ⟨nd, rfl⟩⟩; refine ⟨_, rfl, ?_⟩) | (go_at_call 61; (with_reducible refine (headgateref06_May.calls k2 a0_13 a0_14 a0_15 a0_16 _ _ l0_17 t432 _ ?side1 ?side2 A36.out).mono ?_); (case side1 => exact Zz.k (Kd.C_below HR0_17.out (Zz.i HB.out))); (case side2 => exact HC0_17.out); rintro e w39 ⟨rfl, hb⟩; replace HO_3 := Aside0.mk (Kd.R_below (Zz.r HO_3.out) hb); replace HO_4 := Aside0.mk (Kd.R_below (Zz.r HO_4.out) hb); replace BK418 := Aside0.mk (Zz.bb BK418.out hb); replace HB := Aside0.mk (below_step (Zz.i HB.out) hb); (try clear hb)))
      go_ret
      exact ⟨Zr.e, Zz.i HB.out⟩
     replace c35 := Bool.eq_false_iff.mpr c35
     subst c35
     rw [if_neg Bool.false_ne_true] at H
     obtain rfl := Option.some.inj H
     obtain ⟨Ao40, co40, eo40⟩ := Kd.R_slice HO_4.out
     subst eo40
     have hcz41 := Zz.c18 BK418.out
     have hfz41 := blk_frozen BK418.out
     go_wp2_with (first | ((with_reducible refine gate_callee (f := 58) rfl ?_); refine goesL_ (some 57) rfl rfl Try.func58 (by kernel_rfl) rfl #[.slice Ao40 t426.length co40] rfl Zz.g ?_; (with_reducible refine (headgateref18_in.calls k2 _ _ t426 false _ ?side1 ?side2 A34.out).mono ?_); (case side1 => repeat (first | exact (Kd.R_reads' HO_4.out).2.2 | (with_reducible refine Kd.C_alloc ?_ _) | (with_reducible refine Kd.C_drewN ?_ _) | (with_reducible refine Kd.C_drew ?_))); (case side2 => exact (Kd.R_reads' HO_4.out).2.1); rintro e w' ⟨rfl, ⟨nd, rfl⟩⟩; refine ⟨_, rfl, ?_⟩))
     go_ret
     exact ⟨Zr.e, Zz.i HB.out⟩
    rw [if_neg c33] at H
    obtain ⟨c33b0, c33b1⟩ := Zr.n c33
    replace H := Option.bind_eq_some_iff.mp H
    obtain ⟨t433, A420, H⟩ := H
    try dsimp only at H
    have A42 := Aside0.mk A420
    clear A420
    by_cases c43 : t433 = true
    ·subst c43
     rw [if_pos rfl] at H
     replace H := Option.bind_eq_some_iff.mp H
     obtain ⟨t434, A440, H⟩ := H
     try dsimp only at H
     have A44 := Aside0.mk A440
     clear A440
     obtain rfl := Option.some.inj H
     obtain ⟨Ao45, co45, eo45⟩ := Kd.R_slice HO_4.out
     subst eo45
     have hcz46 := Zz.c18 BK418.out
     have hfz46 := blk_frozen BK418.out
     go_wp2_with (first | ((with_reducible refine gate_callee (f := 58) rfl ?_); refine goesL_ (some 64) rfl rfl Try.func58 (by kernel_rfl) rfl #[.slice Ao45 t426.length co45] rfl Zz.g ?_; (with_reducible refine (headgateref18_in.calls k2 _ _ t426 true _ ?side1 ?side2 A42.out).mono ?_); (case side1 => repeat (first | exact (Kd.R_reads' HO_4.out).2.2 | (with_reducible refine Kd.C_alloc ?_ _) | (with_reducible refine Kd.C_drewN ?_ _) | (with_reducible refine Kd.C_drew ?_))); (case side2 => exact (Kd.R_reads' HO_4.out).2.1); rintro e w' ⟨rfl, ⟨nd, rfl⟩⟩; refine ⟨_, rfl, ?_⟩) | (go_at_call 53; (refine (headgateref06_Same.calls k2 a0_13 a0_14 a0_15 a0_16 _ _ l0_17 0 0 0 0 _ _ ([] : List (S57)) t434 _ ?side1 ?side2 ?side3 ?side4 A44.out).mono ?_); (case side1 => exact Zz.k (Kd.C_below HR0_17.out (Zz.i HB.out))); (case side2 => exact HC0_17.out); (case side3 => exact Kd.C_nil _ _); (case side4 => exact Nat.le_refl _); rintro e w47 ⟨rfl, hb⟩; replace HO_3 := Aside0.mk (Kd.R_below (Zz.r HO_3.out) hb); replace HO_4 := Aside0.mk (Kd.R_below (Zz.r HO_4.out) hb); replace BK418 := Aside0.mk (Zz.bb BK418.out hb); replace HB := Aside0.mk (below_step (Zz.i HB.out) hb); (try clear hb)))
     go_ret
     exact ⟨Zr.e, Zz.i HB.out⟩
    replace c43 := Bool.eq_false_iff.mpr c43
    subst c43
    rw [if_neg Bool.false_ne_true] at H
    obtain rfl := Option.some.inj H
    obtain ⟨Ao48, co48, eo48⟩ := Kd.R_slice HO_4.out
    subst eo48
    have hcz49 := Zz.c18 BK418.out
    have hfz49 := blk_frozen BK418.out
    go_wp2_with (first | ((with_reducible refine gate_callee (f := 58) rfl ?_); refine goesL_ (some 64) rfl rfl Try.func58 (by kernel_rfl) rfl #[.slice Ao48 t426.length co48] rfl Zz.g ?_; (with_reducible refine (headgateref18_in.calls k2 _ _ t426 false _ ?side1 ?side2 A42.out).mono ?_); (case side1 => repeat (first | exact (Kd.R_reads' HO_4.out).2.2 | (with_reducible refine Kd.C_alloc ?_ _) | (with_reducible refine Kd.C_drewN ?_ _) | (with_reducible refine Kd.C_drew ?_))); (case side2 => exact (Kd.R_reads' HO_4.out).2.1); rintro e w' ⟨rfl, ⟨nd, rfl⟩⟩; refine ⟨_, rfl, ?_⟩))
    go_ret
    exact ⟨Zr.e, Zz.i HB.out⟩

end Go.Proofs.Ytikbpjdgihheiaa.P
end
