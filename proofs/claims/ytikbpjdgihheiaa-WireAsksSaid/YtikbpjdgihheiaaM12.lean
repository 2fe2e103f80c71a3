-- Written by wip/mk.py of this repo: the kit's print program, with contracts of our own among its functions (merge.py: Px35).
import Derived.Test.YtikbpjdgihheiaaM0
import Derived.Test.YtikbpjdgihheiaaM2
import Derived.Test.YtikbpjdgihheiaaM6
import Derived.Test.YtikbpjdgihheiaaM3
import Derived.Test.YtikbpjdgihheiaaZz
import Derived.Test.YtikbpjdgihheiaaZr
section
namespace Go.Proofs.Ytikbpjdgihheiaa.P
open Go.RowKit Go.Proofs.YtikbpjdgihheiaaW.PrintWords Go.Proofs.YtikbpjdgihheiaaW.PrintLast Go.Proofs.YtikbpjdgihheiaaW.PrintMore
attribute [local go_sem] max2_int min2_int max_two min_two max_three min_three max_four min_four   -- for this text's walks alone
attribute [local go_sem ↓] Kp.LDAsk_in
attribute [local go_sem] Kp.LDAsk_run
set_option linter.unusedVariables false
set_option linter.unusedSimpArgs false

/-! ### batch_Decode: function 49 -/
theorem batch_Decode.far5 {W : World} {g : Nat} {a : Addr} {x : Option Value} (h : a.block ≠ g) {o0 o1 o2 o3 o4 : Nat} {v0 v1 v2 v3 v4 : Value} (e : W.cell? a = x) : (((((W.setCell ⟨g, o0, none⟩ v0).setCell ⟨g, o1, none⟩ v1).setCell ⟨g, o2, none⟩ v2).setCell ⟨g, o3, none⟩ v3).setCell ⟨g, o4, none⟩ v4).cell? a = x := ((cell_far (p := ⟨g, o4, none⟩) h v4).trans ((cell_far (p := ⟨g, o3, none⟩) h v3).trans ((cell_far (p := ⟨g, o2, none⟩) h v2).trans ((cell_far (p := ⟨g, o1, none⟩) h v1).trans ((cell_far (p := ⟨g, o0, none⟩) h v0).trans e)))))
mutual
def batch_Decode.j0 : Nat → ByteArray → List Int → Bool → Option (Int × Int × Int × Int × (List (S57)) × Int)
  | 0, _, _, _ => none
  | k + 1, x0, x4, x29 => if x29 = true then (some (0, 0, 0, 0, ([] : List (S57)), 2)) else (if 0 < (x4.length : Int) then (if 1 < (x4.length : Int) then (if 2 < (x4.length : Int) then (if 3 < (x4.length : Int) then (if 4 < (x4.length : Int) then (batch_Decode.l0 k x0 (rd x4 4) 0 (rd x4 0) (rd x4 1) (rd x4 2) (rd x4 3) ([] : List (S57))) else (none)) else (none)) else (none)) else (none)) else (none))
def batch_Decode.l0 : Nat → ByteArray → Int → Int → Int → Int → Int → Int → List (S57) → Option (Int × Int × Int × Int × (List (S57)) × Int)
  | 0, _, _, _, _, _, _, _, _ => none
  | k + 1, x0, x46, x47, x473000, x473001, x473002, x473003, x473004 => if x47 < x46 then ((batch_TakeRecord.f k x0).bind fun bt474 => (if bt474.2.2.2.2 = 0 then (if x473004.length < 4398046511104 then (batch_Decode.l0 k bt474.2.2.2.1 x46 (wrap64 (x47 + 1)) x473000 x473001 x473002 x473003 (x473004 ++ [(⟨bt474.1, bt474.2.1, bt474.2.2.1⟩ : S57)])) else (none)) else (some (0, 0, 0, 0, ([] : List (S57)), bt474.2.2.2.2)))) else (if x0.toList = ([] : List UInt8) then ((batch_Check.f k x473000 x473001 x473002 x473003 x473004).bind fun t483 => (if t483 = 0 then (some (x473000, x473001, x473002, x473003, x473004, 0)) else (some (0, 0, 0, 0, ([] : List (S57)), 2)))) else (some (0, 0, 0, 0, ([] : List (S57)), 2)))
end
def batch_Decode.f (k : Nat) (a0 : ByteArray) : Option (Int × Int × Int × Int × (List (S57)) × Int) := (varint_TakeAll.f k a0 5).bind fun bt461 => (if bt461.2.2 = 0 then (if 4 < (bt461.1.length : Int) then (if (rd bt461.1 4) < 0 then (batch_Decode.j0 k bt461.2.1 bt461.1 true) else (batch_Decode.j0 k bt461.2.1 bt461.1 (decide ((rd bt461.1 4) > 64)))) else (none)) else (batch_Decode.j0 k bt461.2.1 bt461.1 true))
def batch_Decode.T4 : Bool × List (List Nat × List Nat) := (true, [([], []), ([0], [0]), ([1], [1]), ([], []), ([3], [3]), ([4], [4]), ([], []), ([6], [6]), ([7], [7]), ([], []), ([9], [9]), ([10], [10]), ([2, 5, 8, 11], [2, 5, 8, 11]), ([], []), ([13, 12, 0, 1, 2, 3, 4, 5, 6, 7, 8, 9, 10, 11, 12, 13], [12, 13])])
def batch_Decode.B4 : List Nat := [0, 1, 3, 0, 8, 24, 0, 64, 192, 0, 512, 1536, 4095, 0, 16383]
theorem batch_Decode.tab4 : rtab .any (opsOf Try.f49 4) = batch_Decode.T4 := by kernel_rfl
theorem batch_Decode.bits4 : waitsOk batch_Decode.T4.2 batch_Decode.B4 = true := by kernel_rfl
set_option maxHeartbeats 8000000 in
set_option maxRecDepth 100000 in
theorem batch_Decode.calls (k : Nat) (a0 : ByteArray) (r1 : Int) (r2 : Int) (r3 : Int) (r4 : Int) (r5 : List (S57)) (r6 : Int) (w : World) (h : batch_Decode.f k a0 = some (r1, r2, r3, r4, r5, r6)) :
    Calls Try.prog 49 #[.string a0] w fun e w' => ∃ v4_ : Value, e = .returned (.tuple #[.agg #[.int .i64 r1, .int .i64 r2, .int .i64 r3, .int .i64 r4, v4_], .int .i64 r6]) ∧ Kd.R k57 57 w' w.heap.size (fun _ => True) v4_ r5 ∧ Below w.heap.size w w' := by
 have hu41 := Try.underlying41
 have hu57 := Try.underlying57
 have HB := Aside0.mk (Below.refl w.heap.size w)
 have H : ((varint_TakeAll.f k a0 5).bind fun bt461 => (if bt461.2.2 = 0 then (if 4 < (bt461.1.length : Int) then (if (rd bt461.1 4) < 0 then (batch_Decode.j0 k bt461.2.1 bt461.1 true) else (batch_Decode.j0 k bt461.2.1 bt461.1 (decide ((rd bt461.1 4) > 64)))) else (none)) else (batch_Decode.j0 k bt461.2.1 bt461.1 true))) = some (r1, r2, r3, r4, r5, r6) := h
 clear h
 replace H := Option.bind_eq_some_iff.mp H
 obtain ⟨⟨t461, t462, t463⟩, A20, H⟩ := H
 try dsimp only at H
 have A2 := Aside0.mk A20
 clear A20
 have HC3 := Aside0.mk H
 clear H
 go_enter Try.func49, Try.ntmps49
 go_upto_region 2 with (first | ((with_reducible refine gate_dst (N := 2) rfl ?_); refine box_event ?hg (N := 2) ?hd (cs := #[.int .i64 0, .int .i64 0, .int .i64 0, .int .i64 0, .slice none 0 0]) (t := 41) ?hr ?_; (case hd => rfl); (case hg => rfl); (case hr => first | (go_simp; done) | (go_simp; rfl)); intro gb460 hg w4 hbox hb; have BK460 := Aside0.mk (hbox); have GW460 := Aside0.mk (Zz.ge hg HB.out); have GE460 := Aside0.mk (Zz.ge hg HB.out); replace HB := Aside0.mk (below_step (Zz.i HB.out) hb); clear hb hbox hg) | ((with_reducible refine gate_callee (f := 32) rfl ?_); refine goesL_ (some 12) rfl rfl Try.func32 (by kernel_rfl) rfl #[.string a0, .int .i64 5] rfl Zz.g ?_; (with_reducible refine (varint_TakeAll.calls k a0 5 t461 t462 t463 _ A2.out).mono ?_); rintro e w5 ⟨v464, rfl, ho0, hb⟩; refine ⟨_, rfl, ?_⟩; have HO465 := Aside0.mk (Kd.R_lower ho0 (below_size (Zz.i HB.out))); replace BK460 := Aside0.mk (Zz.bb BK460.out hb); replace HB := Aside0.mk (below_step (Zz.i HB.out) hb); (try clear hb); (try clear ho0)))
 (try simp only [Act.put, List.setIfInBounds_toArray, List.set_cons_zero, List.set_cons_succ])
 go_cut [29] (fun v29 wc => ∃ (kq : Nat) (x29_2 : Bool), v29 = .bool x29_2 ∧ Aside0 (batch_Decode.j0 kq t462 t461 x29_2 = some (r1, r2, r3, r4, r5, r6)) ∧ Aside0 (kq ≤ k) ∧ Aside0 (Kd.R (Kd.int .i64) 3 wc w.heap.size (fun _ => True) v464 t461) ∧ Aside0 (wc.heap[gb460]? = some (.cells #[.int .i64 0, .int .i64 0, .int .i64 0, .int .i64 0, (.slice none 0 0)] 41 (0, 0))) ∧ Aside0 (Below w.heap.size w wc))
 case first =>
  have H := HC3.out
  clear HC3
  by_cases c6 : t463 = 0
  ·rw [if_pos c6] at H
   obtain ⟨c6b0, c6b1⟩ := Zr.y c6
   clear c6
   (first | rw [c6b0] | rw [c6b9] | (simp only [i64_w, i32_w]; rw [c6b0]) | skip)
   by_cases c7 : 4 < (t461.length : Int)
   ·rw [if_pos c7] at H
    have c7b0 : decide (4 < (t461.length : Int)) = true := decide_eq_true c7
    have c7b1 : decide (4 < t461.length) = true := decide_eq_true (by omega)
    clear c7
    by_cases c8 : (rd t461 4) < 0
    ·rw [if_pos c8] at H
     have c8b0 : decide ((rd t461 4) < 0) = true := decide_eq_true c8
     clear c8
     have H' := Aside0.mk H
     clear H
     obtain ⟨Ao9, co9, eo9⟩ := Kd.R_slice HO465.out
     subst eo9
     have p466 : 0 ≤ (4 : Int) := (by omega)
     have q466 : 4 < (t461.length : Int) := of_decide_eq_true (by first | (with_reducible assumption) | assumption)
     obtain ⟨ad466, e466, hx466_0⟩ := Kd.at_int (Kd.R_reads' HO465.out).2.2 4 p466 q466
     cases e466
     (try simp only [show (4 : Int).toNat = 4 from rfl, Nat.reduceMul, Nat.reduceEqDiff, Go.Addr.add, ↓reduceIte] at hx466_0)
     have qi466 : (4 < t461.length) = True := eq_true (by omega)
     (try rw [show ((4 : Int)).toNat = 4 from rfl] at hx466_0)
     replace p466 := eq_true p466
     replace q466 := eq_true q466
     go_wp2
     go_meet
     case rel => exact ⟨_, (true), Zz.q, H', ⟨by first | omega | exact Nat.le_refl _⟩, ⟨Zz.r HO465.out⟩, ⟨Zz.p BK460.out⟩, ⟨Zz.i HB.out⟩⟩
    rw [if_neg c8] at H
    have c8b0 : decide ((rd t461 4) < 0) = false := decide_eq_false c8
    clear c8
    have H' := Aside0.mk H
    clear H
    obtain ⟨Ao10, co10, eo10⟩ := Kd.R_slice HO465.out
    subst eo10
    have p466 : 0 ≤ (4 : Int) := (by omega)
    have q466 : 4 < (t461.length : Int) := of_decide_eq_true (by first | (with_reducible assumption) | assumption)
    obtain ⟨ad466, e466, hx466_0⟩ := Kd.at_int (Kd.R_reads' HO465.out).2.2 4 p466 q466
    cases e466
    (try simp only [show (4 : Int).toNat = 4 from rfl, Nat.reduceMul, Nat.reduceEqDiff, Go.Addr.add, ↓reduceIte] at hx466_0)
    have qi466 : (4 < t461.length) = True := eq_true (by omega)
    (try rw [show ((4 : Int)).toNat = 4 from rfl] at hx466_0)
    replace p466 := eq_true p466
    replace q466 := eq_true q466
    have p467 : 0 ≤ (4 : Int) := (by omega)
    have q467 : 4 < (t461.length : Int) := of_decide_eq_true (by first | (with_reducible assumption) | assumption)
    obtain ⟨ad467, e467, hx467_0⟩ := Kd.at_int (Kd.R_reads' HO465.out).2.2 4 p467 q467
    obtain rfl : ad466 = ad467 := (by injection e467)
    (try simp only [show (4 : Int).toNat = 4 from rfl, Nat.reduceMul, Nat.reduceEqDiff, Go.Addr.add, ↓reduceIte] at hx467_0)
    have qi467 : (4 < t461.length) = True := eq_true (by omega)
    (try rw [show ((4 : Int)).toNat = 4 from rfl] at hx467_0)
    replace p467 := eq_true p467
    replace q467 := eq_true q467
    go_wp2
    go_meet
    case rel => exact ⟨_, (decide ((rd t461 4) > 64)), Zz.q, H', ⟨by first | omega | exact Nat.le_refl _⟩, ⟨Zz.r HO465.out⟩, ⟨Zz.p BK460.out⟩, ⟨Zz.i HB.out⟩⟩
   rw [if_neg c7] at H
   exact absurd H (by simp)
  rw [if_neg c6] at H
  obtain ⟨c6b0, c6b1⟩ := Zr.n c6
  (first | rw [c6b0] | rw [c6b9] | (simp only [i64_w, i32_w]; rw [c6b0]) | skip)
  have H' := Aside0.mk H
  clear H
  go_wp2
  go_meet
  case rel => exact ⟨_, (true), Zz.q, H', ⟨by first | omega | exact Nat.le_refl _⟩, ⟨Zz.r HO465.out⟩, ⟨Zz.p BK460.out⟩, ⟨Zz.i HB.out⟩⟩
 clear HC3
 (try clear p2);(try clear c3);(try clear c4);(try clear p4);(try clear q4);(try clear hx4);(try clear qi4);(try clear c6);(try clear c6b0);(try clear c6b1);(try clear c7);(try clear c7b0);(try clear c7b1);(try clear c8);(try clear c8b0);(try clear hx466_0);(try clear hx467_0);(try clear p466);(try clear p467);(try clear q466);(try clear q467)
 obtain ⟨kq, x29_2, rfl, HA, HJ2, HO_4, BK460, HB⟩ := hcut
 cases kq with
 | zero => exact absurd HA.out (by simp [batch_Decode.j0])
 | succ kj2 =>
  have H := HA.out
  clear HA
  simp only [batch_Decode.j0] at H
  by_cases c11 : x29_2 = true
  ·subst c11
   rw [if_pos rfl] at H
   simp only [Option.some.injEq, Prod.mk.injEq] at H
   obtain ⟨rfl, rfl, rfl, rfl, rfl, rfl⟩ := H
   have hcz12 := Zz.c5 BK460.out
   have hfz12 := blk_frozen BK460.out
   go_wp2
   refine bodyPost_ret (results_ct rfl _ _ gb460 41 #[.int .i64 0, .int .i64 0, .int .i64 0, .int .i64 0, .slice none 0 0] (0, 0) _ rfl (by (with_reducible repeat (first | refine blk_drewN ?_ _ | refine blk_drew ?_ | refine blk_alloc ?_ _)); exact Zz.u5_0_4 BK460.out) Try.underlying41 rfl (by kernel_rfl)) rfl ?_
   exact ⟨_, Zr.e, by first | exact Kd.R_nil _ _ _ _ _ | exact Kd.N_nil _ _ _ _ _ | exact Kd.V_nil _ _ _ _ _ | exact Kd.Q_nil _ _ _ _ _ | exact Kd.S_nil _ _ _ _ _, Zz.i HB.out⟩
  replace c11 := Bool.eq_false_iff.mpr c11
  subst c11
  rw [if_neg Bool.false_ne_true] at H
  by_cases c13 : 0 < (t461.length : Int)
  ·rw [if_pos c13] at H
   have c13b0 : decide (0 < (t461.length : Int)) = true := decide_eq_true c13
   have c13b1 : decide (0 < t461.length) = true := decide_eq_true (by omega)
   clear c13
   by_cases c14 : 1 < (t461.length : Int)
   ·rw [if_pos c14] at H
    have c14b0 : decide (1 < (t461.length : Int)) = true := decide_eq_true c14
    have c14b1 : decide (1 < t461.length) = true := decide_eq_true (by omega)
    clear c14
    by_cases c15 : 2 < (t461.length : Int)
    ·rw [if_pos c15] at H
     have c15b0 : decide (2 < (t461.length : Int)) = true := decide_eq_true c15
     have c15b1 : decide (2 < t461.length) = true := decide_eq_true (by omega)
     clear c15
     by_cases c16 : 3 < (t461.length : Int)
     ·rw [if_pos c16] at H
      have c16b0 : decide (3 < (t461.length : Int)) = true := decide_eq_true c16
      have c16b1 : decide (3 < t461.length) = true := decide_eq_true (by omega)
      clear c16
      by_cases c17 : 4 < (t461.length : Int)
      ·rw [if_pos c17] at H
       have c17b0 : decide (4 < (t461.length : Int)) = true := decide_eq_true c17
       have c17b1 : decide (4 < t461.length) = true := decide_eq_true (by omega)
       clear c17
       have H' := Aside0.mk H
       clear H
       try go_wp2
       have n0_ := Aside0.mk (Kd.R_drew HO_4.out)
       have n1_ := Aside0.mk (blk_drew BK460.out)
       have n2_ := Aside0.mk (below_drew1 HB.out)
       clear HO_4
       clear BK460
       clear HB
       have HO_4 := n0_
       have BK460 := n1_
       have HB := n2_
       clear n0_ n1_ n2_
       obtain ⟨Ao19, co19, eo19⟩ := Kd.R_slice HO_4.out
       (first | subst eo19 | (injection eo19 with f1_ f2_ f3_; have f4_ := f1_.symm; have f5_ := f3_.symm; clear f1_ f2_ f3_; subst f4_; subst f5_))
       have p468 : 0 ≤ (0 : Int) := (by omega)
       have q468 : 0 < (t461.length : Int) := of_decide_eq_true (by first | (with_reducible assumption) | assumption)
       obtain ⟨ad468, e468, hx468_0⟩ := Kd.at_int (Kd.R_reads' HO_4.out).2.2 0 p468 q468
       cases e468
       have qi468 : (0 < t461.length) = True := eq_true (by omega)
       (try rw [show ((0 : Int)).toNat = 0 from rfl] at hx468_0)
       (try rw [Addr.add_zero'] at hx468_0)
       replace p468 := eq_true p468
       replace q468 := eq_true q468
       have p469 : 0 ≤ (1 : Int) := (by omega)
       have q469 : 1 < (t461.length : Int) := of_decide_eq_true (by first | (with_reducible assumption) | assumption)
       obtain ⟨ad469, e469, hx469_0⟩ := Kd.at_int (Kd.R_reads' HO_4.out).2.2 1 p469 q469
       obtain rfl : ad468 = ad469 := (by injection e469)
       (try simp only [show (1 : Int).toNat = 1 from rfl, Nat.reduceMul, Nat.reduceEqDiff, Go.Addr.add, ↓reduceIte] at hx469_0)
       have qi469 : (1 < t461.length) = True := eq_true (by omega)
       (try rw [show ((1 : Int)).toNat = 1 from rfl] at hx469_0)
       replace p469 := eq_true p469
       replace q469 := eq_true q469
       have p470 : 0 ≤ (2 : Int) := (by omega)
       have q470 : 2 < (t461.length : Int) := of_decide_eq_true (by first | (with_reducible assumption) | assumption)
       obtain ⟨ad470, e470, hx470_0⟩ := Kd.at_int (Kd.R_reads' HO_4.out).2.2 2 p470 q470
       obtain rfl : ad468 = ad470 := (by injection e470)
       (try simp only [show (2 : Int).toNat = 2 from rfl, Nat.reduceMul, Nat.reduceEqDiff, Go.Addr.add, ↓reduceIte] at hx470_0)
       have qi470 : (2 < t461.length) = True := eq_true (by omega)
       (try rw [show ((2 : Int)).toNat = 2 from rfl] at hx470_0)
       replace p470 := eq_true p470
       replace q470 := eq_true q470
       have p471 : 0 ≤ (3 : Int) := (by omega)
       have q471 : 3 < (t461.length : Int) := of_decide_eq_true (by first | (with_reducible assumption) | assumption)
       obtain ⟨ad471, e471, hx471_0⟩ := Kd.at_int (Kd.R_reads' HO_4.out).2.2 3 p471 q471
       obtain rfl : ad468 = ad471 := (by injection e471)
       (try simp only [show (3 : Int).toNat = 3 from rfl, Nat.reduceMul, Nat.reduceEqDiff, Go.Addr.add, ↓reduceIte] at hx471_0)
       have qi471 : (3 < t461.length) = True := eq_true (by omega)
       (try rw [show ((3 : Int)).toNat = 3 from rfl] at hx471_0)
       replace p471 := eq_true p471
       replace q471 := eq_true q471
       refine start_ (n := 15) (S := fun w' => w'.cell? ad468 = some (.int .i64 (rd t461 0)) ∧ w'.cell? ⟨ad468.block, ad468.off + 1, none⟩ = some (.int .i64 (rd t461 1)) ∧ w'.cell? ⟨ad468.block, ad468.off + 2, none⟩ = some (.int .i64 (rd t461 2)) ∧ w'.cell? ⟨ad468.block, ad468.off + 3, none⟩ = some (.int .i64 (rd t461 3))) (ds := []) #[false, false, false, false, false, false, false, false, false, false, false, false, false, false, false] (by kernel_rfl) rfl rfl ⟨hx468_0, hx469_0, hx470_0, hx471_0⟩ (fun hHeld => ?_); refine with_tabW batch_Decode.tab4 batch_Decode.bits4 (fun HT_ HW_ => ?_)
       generalize wc.drew = w18 at HO_4 BK460 HB hx468_0 hx469_0 hx470_0 hx471_0 hHeld ⊢
       refine Zr.pu 0 31 HT_.out ?_
       refine Zr.pu 1 32 HT_.out ?_
       refine Zr.pu 3 34 HT_.out ?_
       refine Zr.pu 4 35 HT_.out ?_
       refine Zr.pu 6 37 HT_.out ?_
       refine Zr.pu 7 38 HT_.out ?_
       refine Zr.pu 9 40 HT_.out ?_
       refine Zr.pu 10 41 HT_.out ?_
       refine Zr.ta 2 33 HT_.out HW_.out hHeld ?_
       refine Zr.ta 5 36 HT_.out HW_.out hHeld ?_
       refine Zr.ta 8 39 HT_.out HW_.out hHeld ?_
       refine Zr.ta 11 42 HT_.out HW_.out hHeld ?_
       refine Zr.pu 12 43 HT_.out ?_
       refine one_ (i := 13) (N := some 6) #[true, true, true, true, true, true, true, true, true, true, true, true, true, true, false] rfl rfl (one_of HT_.out (by kernel_rfl)) (by decide) (fun K hK => ?_)
       refine box_step ?hg (N := 6) ?hd (cs := #[.int .i64 0, .int .i64 0, .int .i64 0, .int .i64 0, .slice none 0 0]) (t := 41) ?hr ?_; (case hd => rfl); (case hg => rfl); (case hr => first | (go_simp; done) | (go_simp; rfl))
       intro gb472 hg w20 hbox hb
       have HS0_ := (hb.cell (World.block_lt_of_cell? _ _ (hHeld.1))).trans (hHeld.1)
       have HS1_ := (hb.cell (World.block_lt_of_cell? _ _ (hHeld.2.1))).trans (hHeld.2.1)
       have HS2_ := (hb.cell (World.block_lt_of_cell? _ _ (hHeld.2.2.1))).trans (hHeld.2.2.1)
       have HS3_ := (hb.cell (World.block_lt_of_cell? _ _ (hHeld.2.2.2))).trans (hHeld.2.2.2)
       have HNE0_472 : (ad468 : Addr).block ≠ gb472 := (by rw [hg]; exact Nat.ne_of_lt (World.block_lt_of_cell? _ _ (hHeld.1)))
       have HNE1_472 : (⟨ad468.block, ad468.off + 1, none⟩ : Addr).block ≠ gb472 := (by rw [hg]; exact Nat.ne_of_lt (World.block_lt_of_cell? _ _ (hHeld.2.1)))
       have HNE2_472 : (⟨ad468.block, ad468.off + 2, none⟩ : Addr).block ≠ gb472 := (by rw [hg]; exact Nat.ne_of_lt (World.block_lt_of_cell? _ _ (hHeld.2.2.1)))
       have HNE3_472 : (⟨ad468.block, ad468.off + 3, none⟩ : Addr).block ≠ gb472 := (by rw [hg]; exact Nat.ne_of_lt (World.block_lt_of_cell? _ _ (hHeld.2.2.2)))
       have n0_ := Aside0.mk (Kd.R_below (Zz.r HO_4.out) hb)
       have n1_ := Aside0.mk (Zz.bb BK460.out hb)
       have n2_ := Aside0.mk (below_step (Zz.i HB.out) hb)
       have n3_ := Aside0.mk (hbox)
       have n4_ := Aside0.mk (Zz.ge hg HB.out)
       have n5_ := Aside0.mk (Zz.ge hg HB.out)
       have n6_ := Aside0.mk (Zz.nl hg BK460.out)
       have n7_ := Aside0.mk (Zz.ng hg BK460.out)
       clear HO_4
       clear BK460
       clear HB
       have HO_4 := n0_
       have BK460 := n1_
       have HB := n2_
       have BK472 := n3_
       have GW472 := n4_
       have GE472 := n5_
       have NB460_472 := n6_
       have NB472_460 := n7_
       clear n0_ n1_ n2_ n3_ n4_ n5_ n6_ n7_
       clear hb hbox hg
       refine hK.out _ _ ⟨HS0_, HS1_, HS2_, HS3_⟩ (fun hHeld => ?_)
       clear hK K
       refine norm_ (a' := ?_) ?_ ?_
       rotate_left
       ·show Act.put _ (some 6) _ = _
        simp only [Act.put, List.setIfInBounds_toArray, List.set_cons_zero, List.set_cons_succ, i64_w, i32_w]
        rfl
       refine one_ (i := 14) (N := none) #[true, true, true, true, true, true, true, true, true, true, true, true, true, true, true] rfl rfl (one_of HT_.out (by kernel_rfl)) (by decide) (fun K hK => ?_)
       have hs21 : w20.cell? ⟨gb472, 0, none⟩ = some (.int .i64 0) := (blk_cell BK472.out 0).trans rfl
       have hfs21 := blk_frozen BK472.out 0
       have hns21_0 := NB460_472.out
       have hms21_0 := NB472_460.out
       have hs22 : w20.cell? ⟨gb472, 1, none⟩ = some (.int .i64 0) := (blk_cell BK472.out 1).trans rfl
       have hfs22 := blk_frozen BK472.out 1
       have hns22_0 := NB460_472.out
       have hms22_0 := NB472_460.out
       have hs23 : w20.cell? ⟨gb472, 2, none⟩ = some (.int .i64 0) := (blk_cell BK472.out 2).trans rfl
       have hfs23 := blk_frozen BK472.out 2
       have hns23_0 := NB460_472.out
       have hms23_0 := NB472_460.out
       have hs24 : w20.cell? ⟨gb472, 3, none⟩ = some (.int .i64 0) := (blk_cell BK472.out 3).trans rfl
       have hfs24 := blk_frozen BK472.out 3
       have hns24_0 := NB460_472.out
       have hms24_0 := NB472_460.out
       have hs25 : w20.cell? ⟨gb472, 4, none⟩ = some (.slice none 0 0) := (blk_cell BK472.out 4).trans rfl
       have hfs25 := blk_frozen BK472.out 4
       have hns25_0 := NB460_472.out
       have hms25_0 := NB472_460.out
       refine skip_ (w1 := ?_) (by rfl) rfl ?_ ?_
       rotate_left
       ·go_simp
        rfl
       refine hK.out _ _ ⟨(batch_Decode.far5 (g := gb472) (by first | exact HNE0_472 | exact Kd.own_blk (Kd.R_ne HO_4.out BK472.out (by decide)) | (rw [add_block]; exact Kd.own_blk (Kd.R_ne HO_4.out BK472.out (by decide))) | (show (Addr.add _ _).block ≠ _; rw [add_block]; exact Kd.own_blk (Kd.R_ne HO_4.out BK472.out (by decide))) | (dsimp only; exact Kd.own_blk (Kd.R_ne HO_4.out BK472.out (by decide)))) (hHeld.1)), (batch_Decode.far5 (g := gb472) (by first | exact HNE1_472 | exact Kd.own_blk (Kd.R_ne HO_4.out BK472.out (by decide)) | (rw [add_block]; exact Kd.own_blk (Kd.R_ne HO_4.out BK472.out (by decide))) | (show (Addr.add _ _).block ≠ _; rw [add_block]; exact Kd.own_blk (Kd.R_ne HO_4.out BK472.out (by decide))) | (dsimp only; exact Kd.own_blk (Kd.R_ne HO_4.out BK472.out (by decide)))) (hHeld.2.1)), (batch_Decode.far5 (g := gb472) (by first | exact HNE2_472 | exact Kd.own_blk (Kd.R_ne HO_4.out BK472.out (by decide)) | (rw [add_block]; exact Kd.own_blk (Kd.R_ne HO_4.out BK472.out (by decide))) | (show (Addr.add _ _).block ≠ _; rw [add_block]; exact Kd.own_blk (Kd.R_ne HO_4.out BK472.out (by decide))) | (dsimp only; exact Kd.own_blk (Kd.R_ne HO_4.out BK472.out (by decide)))) (hHeld.2.2.1)), (batch_Decode.far5 (g := gb472) (by first | exact HNE3_472 | exact Kd.own_blk (Kd.R_ne HO_4.out BK472.out (by decide)) | (rw [add_block]; exact Kd.own_blk (Kd.R_ne HO_4.out BK472.out (by decide))) | (show (Addr.add _ _).block ≠ _; rw [add_block]; exact Kd.own_blk (Kd.R_ne HO_4.out BK472.out (by decide))) | (dsimp only; exact Kd.own_blk (Kd.R_ne HO_4.out BK472.out (by decide)))) (hHeld.2.2.2))⟩ (fun hHeld => ?_)
       clear hK K
       refine done_ (done_of HT_.out (by kernel_rfl)) ?_
       have p473 : 0 ≤ (4 : Int) := (by omega)
       have q473 : 4 < (t461.length : Int) := of_decide_eq_true (by first | (with_reducible assumption) | assumption)
       obtain ⟨ad473, e473, hx473_0⟩ := Kd.at_int (Kd.R_reads' HO_4.out).2.2 4 p473 q473
       obtain rfl : ad468 = ad473 := (by injection e473)
       (try simp only [show (4 : Int).toNat = 4 from rfl, Nat.reduceMul, Nat.reduceEqDiff, Go.Addr.add, ↓reduceIte] at hx473_0)
       have qi473 : (4 < t461.length) = True := eq_true (by omega)
       (try rw [show ((4 : Int)).toNat = 4 from rfl] at hx473_0)
       have hn473_0 : ad468.block ≠ gb472 := Kd.own_blk (Kd.R_ne HO_4.out BK472.out (by decide))
       have hn473_1 : ad468.block ≠ gb472 := Kd.own_blk (Kd.R_ne HO_4.out BK472.out (by decide))
       have hn473_2 : ad468.block ≠ gb472 := Kd.own_blk (Kd.R_ne HO_4.out BK472.out (by decide))
       have hn473_3 : ad468.block ≠ gb472 := Kd.own_blk (Kd.R_ne HO_4.out BK472.out (by decide))
       have hn473_4 : ad468.block ≠ gb472 := Kd.own_blk (Kd.R_ne HO_4.out BK472.out (by decide))
       replace hx473_0 := (cell_far (p := ⟨gb472, 0, none⟩) (by first | (rw [add_block]; exact hn473_0) | (show (Addr.add _ _).block ≠ _; rw [add_block]; exact hn473_0) | exact hn473_0) (.int .i64 (rd t461 0))).trans hx473_0
       replace hx473_0 := (cell_far (p := ⟨gb472, 1, none⟩) (by first | (rw [add_block]; exact hn473_1) | (show (Addr.add _ _).block ≠ _; rw [add_block]; exact hn473_1) | exact hn473_1) (.int .i64 (rd t461 1))).trans hx473_0
       replace hx473_0 := (cell_far (p := ⟨gb472, 2, none⟩) (by first | (rw [add_block]; exact hn473_2) | (show (Addr.add _ _).block ≠ _; rw [add_block]; exact hn473_2) | exact hn473_2) (.int .i64 (rd t461 2))).trans hx473_0
       replace hx473_0 := (cell_far (p := ⟨gb472, 3, none⟩) (by first | (rw [add_block]; exact hn473_3) | (show (Addr.add _ _).block ≠ _; rw [add_block]; exact hn473_3) | exact hn473_3) (.int .i64 (rd t461 3))).trans hx473_0
       replace hx473_0 := (cell_far (p := ⟨gb472, 4, none⟩) (by first | (rw [add_block]; exact hn473_4) | (show (Addr.add _ _).block ≠ _; rw [add_block]; exact hn473_4) | exact hn473_4) (.slice none 0 0)).trans hx473_0
       clear hn473_0
       clear hn473_1
       clear hn473_2
       clear hn473_3
       clear hn473_4
       replace p473 := eq_true p473
       replace q473 := eq_true q473
       try go_wp2
       go_loopg [0, 47] kj2 (fun kq v0 v47 w' => ∃ (x0_2 : ByteArray) (x47_2 : Int) (x461000_2 : Int) (x461001_2 : Int) (x461002_2 : Int) (x461003_2 : Int) (x473004_2 : List (S57)) (u473004 : Value), v0 = .string x0_2 ∧ v47 = .int .i64 x47_2 ∧ Aside0 (batch_Decode.l0 kq x0_2 (rd t461 4) x47_2 (rd t461 0) (rd t461 1) (rd t461 2) (rd t461 3) x473004_2 = some (r1, r2, r3, r4, r5, r6)) ∧ Aside0 (kq ≤ kj2) ∧ Aside0 (Kd.R k57 57 w' w.heap.size (fun _ => True) u473004 x473004_2) ∧ Aside0 (w'.heap[gb460]? = some (.cells #[.int .i64 x461000_2, .int .i64 x461001_2, .int .i64 x461002_2, .int .i64 x461003_2, (.slice none 0 0)] 41 (0, 0))) ∧ Aside0 (w'.heap[gb472]? = some (.cells #[.int .i64 (rd t461 0), .int .i64 (rd t461 1), .int .i64 (rd t461 2), .int .i64 (rd t461 3), u473004] 41 (0, 0))) ∧ Aside0 (Below w.heap.size w w'))
       case atStart => exact ⟨(t462), (0), (0), (0), (0), (0), (([] : List (S57))), (.slice none 0 0), Zz.q, Zz.q, H', ⟨Nat.le_refl _⟩, ⟨by first | exact Kd.R_nil _ _ _ _ _ | exact Kd.N_nil _ _ _ _ _ | exact Kd.V_nil _ _ _ _ _ | exact Kd.Q_nil _ _ _ _ _ | exact Kd.S_nil _ _ _ _ _⟩, ⟨by exact Zz.q5 BK460.out NB460_472.out⟩, ⟨by (with_reducible repeat (first | refine blk_drewN ?_ _ | refine blk_drew ?_ | refine blk_alloc ?_ _)); exact Zz.u5_0_4 BK472.out⟩, ⟨Zz.i HB.out⟩⟩
       case round =>
        clear H'
        (try clear c1);(try clear p2);(try clear c3);(try clear c4);(try clear p4);(try clear q4);(try clear hx4);(try clear qi4);(try clear c6);(try clear c6b0);(try clear c6b1);(try clear c7);(try clear c7b0);(try clear c7b1);(try clear c8);(try clear c8b0);(try clear c11);(try clear c13);(try clear c13b0);(try clear c13b1);(try clear c14);(try clear c14b0);(try clear c14b1);(try clear c15);(try clear c15b0);(try clear c15b1);(try clear c16);(try clear c16b0);(try clear c16b1);(try clear c17);(try clear c17b0);(try clear c17b1);(try clear hcz12);(try clear hfz12);(try clear hx466_0);(try clear hx467_0);(try clear hx468_0);(try clear hx469_0);(try clear hx470_0);(try clear hx471_0);(try clear hx473_0);(try clear p466);(try clear p467);(try clear p468);(try clear p469);(try clear p470);(try clear p471);(try clear p473);(try clear q466);(try clear q467);(try clear q468);(try clear q469);(try clear q470);(try clear q471);(try clear q473)
        obtain ⟨x0_2, x47_2, x461000_2, x461001_2, x461002_2, x461003_2, x473004_2, u473004, rfl, rfl, HA, HK2, HO_473004, BK460, BK472, HB⟩ := hrel
        cases gk with
        | zero => exact absurd HA.out (by simp [batch_Decode.l0])
        | succ k2 =>
         have H := HA.out
         clear HA
         simp only [batch_Decode.l0] at H
         by_cases c26 : x47_2 < (rd t461 4)
         ·rw [if_pos c26] at H
          have c26b0 : decide (x47_2 < (rd t461 4)) = true := decide_eq_true c26
          clear c26
          replace H := Option.bind_eq_some_iff.mp H
          obtain ⟨⟨t474, t475, t476, t477, t478⟩, A270, H⟩ := H
          try dsimp only at H
          have A27 := Aside0.mk A270
          clear A270
          by_cases c28 : t478 = 0
          ·rw [if_pos c28] at H
           obtain ⟨c28b0, c28b1⟩ := Zr.y c28
           clear c28
           by_cases c29 : x473004_2.length < 4398046511104
           ·rw [if_pos c29] at H
            have LMc29 := Aside0.mk c29
            clear c29
            obtain ⟨y480, hy480⟩ : ∃ y_ : List (S57), y_ = (x473004_2 ++ [(⟨t474, t475, t476⟩ : S57)]) := ⟨_, rfl⟩
            replace H : (batch_Decode.l0 k2 t477 (rd t461 4) (wrap64 (x47_2 + 1)) (rd t461 0) (rd t461 1) (rd t461 2) (rd t461 3) y480) = some (r1, r2, r3, r4, r5, r6) := by first | (rw [hy480]; with_reducible exact H) | (have H2_ := (Option.bind_some _ _).symm.trans H; rw [hy480]; with_reducible exact H2_) | (have H2_ := (Option.bind_some _ _).symm.trans H; with_reducible exact H2_) | with_reducible exact H | (rw [hy480]; exact H) | exact H
            have Ny480 := Aside0.mk hy480
            clear hy480
            have H' := Aside0.mk H
            clear H
            go_wp2_with (first | ((with_reducible refine gate_callee (f := 26) rfl ?_); refine goesL_ (some 51) rfl rfl Try.func26 (by kernel_rfl) rfl #[.string x0_2] rfl Zz.g ?_; (with_reducible refine (batch_TakeRecord.calls k2 x0_2 t474 t475 t476 t477 t478 _ A27.out).mono ?_); rintro e w30 ⟨rfl, hb⟩; refine ⟨_, rfl, ?_⟩; replace HO_473004 := Aside0.mk (Kd.R_below (Zz.r HO_473004.out) hb); replace BK460 := Aside0.mk (Zz.bb BK460.out hb); replace BK472 := Aside0.mk (Zz.bb BK472.out hb); replace HB := Aside0.mk (below_step (Zz.i HB.out) hb); (try clear hb)) | ((with_reducible refine gate_dst (N := 7) rfl ?_); refine box_event ?hg (N := 7) ?hd (cs := #[.int .i64 0, .int .i64 0, .string (⟨#[]⟩ : ByteArray)]) (t := 57) ?hr ?_; (case hd => rfl); (case hg => rfl); (case hr => first | (go_simp; done) | (go_simp; rfl)); intro gb479 hg w31 hbox hb; replace HO_473004 := Aside0.mk (Kd.R_below (Kd.R_elderB (Zz.r HO_473004.out) gb479 (Nat.le_of_eq hg.symm)) hb); have BK479 := Aside0.mk (hbox); have GW479 := Aside0.mk (Zz.ge hg HB.out); have GE479 := Aside0.mk (Zz.ge hg HB.out); replace HB := Aside0.mk (below_step (Zz.i HB.out) hb); have NB460_479 := Aside0.mk (Zz.nl hg BK460.out); have NB479_460 := Aside0.mk (Zz.ng hg BK460.out); replace BK460 := Aside0.mk (Zz.bb BK460.out hb); have NB472_479 := Aside0.mk (Zz.nl hg BK472.out); have NB479_472 := Aside0.mk (Zz.ng hg BK472.out); replace BK472 := Aside0.mk (Zz.bb BK472.out hb); clear hb hbox hg; have hnb32 := NB479_460.out; have hnc32 := NB460_479.out; have hnb33 := NB479_472.out; have hnc33 := NB472_479.out; have hcz34 := Zz.c3 BK479.out; have hfz34 := blk_frozen BK479.out; have hnb35 := NB472_460.out; have hnc35 := NB460_472.out; have hcz36 := Zz.c5 BK472.out; have hfz36 := blk_frozen BK472.out) | ((with_reducible refine gate_builtin (b := .append) (xs := #[.tmp 60, .tmp 62]) rfl ?_); at_builtin; refine Kd.R_append k57 (w0 := w) w.heap.size rfl (.tmp 60) (.tmp 62) 39 57 (.agg #[(.int .i64 0), (.int .i64 0), (.string ⟨#[]⟩)]) 32 rfl Try.underlying39 info57 rfl (by decide) (by omega) u473004 x473004_2 (⟨t474, t475, t476⟩ : S57) [.int .i64 t474, .int .i64 t475, .string t476] (fun k_ => k_ ≠ gb479) (fun _ => False) rfl (by first | (go_simp; done) | (go_simp; rfl)) ?aP (fun _ hk => hk.elim) ?aF ?aO ?aB ?aS ?aL ?_; (case aP => exact k57_mkM _ _ _ (⟨t474, t475, t476⟩ : S57)); (case aB => exact (Zz.i HB.out)); (case aF => exact (fun k_ hk => Kd.freshB (g := gb479) (o := .cells #[.int .i64 t474, .int .i64 t475, .string t476] 57 (0, 0)) (by (with_reducible repeat (first | refine blk_drewN ?_ _ | refine blk_drew ?_ | refine blk_alloc ?_ _)); exact Zz.u3_0_2 BK479.out) k_ hk)); (case aO => exact (by (with_reducible repeat (first | apply Kd.R_alloc | apply Kd.R_drewN | apply Kd.R_drew)); exact Kd.R_mono (Zz.f3 (Kd.R_mono HO_473004.out (fun k_ hk => (⟨hk, hk.2⟩ : _ ∧ k_ ≠ gb479))) (fun _ hk => hk.2)) (fun _ hk => hk.1.2))); (case aS => exact (below_size (Zz.i HB.out))); (case aL => have := LMc29.out; omega); intro v481 w37 ho hb hg hat; rw [← Ny480.out] at ho; have n0_ := Aside0.mk (blk_grown (g := gb460) (o := .cells #[.int .i64 x461000_2, .int .i64 x461001_2, .int .i64 x461002_2, .int .i64 x461003_2, .slice none 0 0] 41 (0, 0)) (by exact Zz.q3 BK460.out NB460_479.out) hg (Kd.R_ne HO_473004.out BK460.out (by decide))); have n1_ := Aside0.mk (blk_grown (g := gb472) (o := .cells #[.int .i64 (rd t461 0), .int .i64 (rd t461 1), .int .i64 (rd t461 2), .int .i64 (rd t461 3), u473004] 41 (0, 0)) (by exact Zz.q3 BK472.out NB472_479.out) hg (Kd.R_ne HO_473004.out BK472.out (by decide))); have n2_ := Aside0.mk (blk_grown (g := gb479) (o := .cells #[.int .i64 t474, .int .i64 t475, .string t476] 57 (0, 0)) (by (with_reducible repeat (first | refine blk_drewN ?_ _ | refine blk_drew ?_ | refine blk_alloc ?_ _)); exact Zz.u3_0_2 BK479.out) hg (Kd.R_away HO_473004.out (fun _ hk => hk.2))); have n3_ := Aside0.mk (hb); have n4_ := Aside0.mk (ho); clear BK460; clear BK472; clear BK479; clear HB; clear HO_473004; have BK460 := n0_; have BK472 := n1_; have BK479 := n2_; have HB := n3_; have HO482 := n4_; clear n0_ n1_ n2_ n3_ n4_; clear ho hb hg hat; obtain ⟨Ao38, co38, eo38⟩ := Kd.R_slice HO482.out; subst eo38; have hcz39 := Zz.c5 BK472.out; have hfz39 := blk_frozen BK472.out))
            go_roundg k2
            case measure => have := HJ2.out; have := HK2.out; omega
            case rel => exact ⟨(t477), (wrap64 (x47_2 + 1)), (x461000_2), (x461001_2), (x461002_2), (x461003_2), (y480), (.slice Ao38 y480.length co38), Zz.q, Zz.q, H', ⟨by have := HJ2.out; have := HK2.out; omega⟩, ⟨by (with_reducible repeat (first | apply Kd.R_alloc | apply Kd.R_drewN | apply Kd.R_drew)); exact Kd.R_mono (Kd.R_far (p := ⟨gb472, 4, none⟩) (Kd.R_types HO482.out BK472.out (by decide)) (fun _ hk => hk.2) (.slice Ao38 y480.length co38)) (fun _ hk => trivial)⟩, ⟨Zz.p1 BK460.out NB460_472.out⟩, ⟨by (with_reducible repeat (first | refine blk_drewN ?_ _ | refine blk_drew ?_ | refine blk_alloc ?_ _)); refine blk_put (cs := #[.int .i64 (rd t461 0), .int .i64 (rd t461 1), .int .i64 (rd t461 2), .int .i64 (rd t461 3), u473004]) ?_ 4 _ rfl; (with_reducible repeat (first | refine blk_drewN ?_ _ | refine blk_drew ?_ | refine blk_alloc ?_ _)); exact BK472.out⟩, ⟨Zz.i HB.out⟩⟩
           rw [if_neg c29] at H
           exact absurd H (by simp)
          rw [if_neg c28] at H
          obtain ⟨c28b0, c28b1⟩ := Zr.n c28
          simp only [Option.some.injEq, Prod.mk.injEq] at H
          obtain ⟨rfl, rfl, rfl, rfl, rfl, rfl⟩ := H
          go_wp2_with (first | ((with_reducible refine gate_callee (f := 26) rfl ?_); refine goesL_ (some 51) rfl rfl Try.func26 (by kernel_rfl) rfl #[.string x0_2] rfl Zz.g ?_; (with_reducible refine (batch_TakeRecord.calls k2 x0_2 t474 t475 t476 t477 t478 _ A27.out).mono ?_); rintro e w40 ⟨rfl, hb⟩; refine ⟨_, rfl, ?_⟩; replace HO_473004 := Aside0.mk (Kd.R_below (Zz.r HO_473004.out) hb); replace BK460 := Aside0.mk (Zz.bb BK460.out hb); replace BK472 := Aside0.mk (Zz.bb BK472.out hb); replace HB := Aside0.mk (below_step (Zz.i HB.out) hb); (try clear hb)) | ((with_reducible refine gate_dst (N := 7) rfl ?_); refine box_event ?hg (N := 7) ?hd (cs := #[.int .i64 0, .int .i64 0, .string (⟨#[]⟩ : ByteArray)]) (t := 57) ?hr ?_; (case hd => rfl); (case hg => rfl); (case hr => first | (go_simp; done) | (go_simp; rfl)); intro gb479 hg w41 hbox hb; replace HO_473004 := Aside0.mk (Kd.R_below (Kd.R_elderB (Zz.r HO_473004.out) gb479 (Nat.le_of_eq hg.symm)) hb); have BK479 := Aside0.mk (hbox); have GW479 := Aside0.mk (Zz.ge hg HB.out); have GE479 := Aside0.mk (Zz.ge hg HB.out); replace HB := Aside0.mk (below_step (Zz.i HB.out) hb); have NB460_479 := Aside0.mk (Zz.nl hg BK460.out); have NB479_460 := Aside0.mk (Zz.ng hg BK460.out); replace BK460 := Aside0.mk (Zz.bb BK460.out hb); have NB472_479 := Aside0.mk (Zz.nl hg BK472.out); have NB479_472 := Aside0.mk (Zz.ng hg BK472.out); replace BK472 := Aside0.mk (Zz.bb BK472.out hb); clear hb hbox hg; have hnb42 := NB479_460.out; have hnc42 := NB460_479.out; have hnb43 := NB479_472.out; have hnc43 := NB472_479.out; have hcz44 := Zz.c3 BK479.out; have hfz44 := blk_frozen BK479.out; have hnb45 := NB460_472.out; have hnc45 := NB472_460.out; have hcz46 := Zz.c5 BK460.out; have hfz46 := blk_frozen BK460.out))
          refine bodyPost_ret (results_ct rfl _ _ gb460 41 #[.int .i64 0, .int .i64 0, .int .i64 0, .int .i64 0, .slice none 0 0] (0, 0) _ rfl (by (with_reducible repeat (first | refine blk_drewN ?_ _ | refine blk_drew ?_ | refine blk_alloc ?_ _)); refine blk_put (cs := #[.int .i64 0, .int .i64 0, .int .i64 0, .int .i64 0, .slice none 0 0]) ?_ 4 _ rfl; (with_reducible repeat (first | refine blk_drewN ?_ _ | refine blk_drew ?_ | refine blk_alloc ?_ _)); refine blk_put (cs := #[.int .i64 0, .int .i64 0, .int .i64 0, .int .i64 x461003_2, .slice none 0 0]) ?_ 3 _ rfl; (with_reducible repeat (first | refine blk_drewN ?_ _ | refine blk_drew ?_ | refine blk_alloc ?_ _)); refine blk_put (cs := #[.int .i64 0, .int .i64 0, .int .i64 x461002_2, .int .i64 x461003_2, .slice none 0 0]) ?_ 2 _ rfl; (with_reducible repeat (first | refine blk_drewN ?_ _ | refine blk_drew ?_ | refine blk_alloc ?_ _)); refine blk_put (cs := #[.int .i64 0, .int .i64 x461001_2, .int .i64 x461002_2, .int .i64 x461003_2, .slice none 0 0]) ?_ 1 _ rfl; (with_reducible repeat (first | refine blk_drewN ?_ _ | refine blk_drew ?_ | refine blk_alloc ?_ _)); refine blk_put (cs := #[.int .i64 x461000_2, .int .i64 x461001_2, .int .i64 x461002_2, .int .i64 x461003_2, .slice none 0 0]) ?_ 0 _ rfl; (with_reducible repeat (first | refine blk_drewN ?_ _ | refine blk_drew ?_ | refine blk_alloc ?_ _)); refine blk_far ?_ NB460_479.out _; (with_reducible repeat (first | refine blk_drewN ?_ _ | refine blk_drew ?_ | refine blk_alloc ?_ _)); refine blk_far ?_ NB460_479.out _; (with_reducible repeat (first | refine blk_drewN ?_ _ | refine blk_drew ?_ | refine blk_alloc ?_ _)); refine blk_far ?_ NB460_479.out _; (with_reducible repeat (first | refine blk_drewN ?_ _ | refine blk_drew ?_ | refine blk_alloc ?_ _)); exact BK460.out) Try.underlying41 rfl (by kernel_rfl)) rfl ?_
          exact ⟨_, Zr.e, by first | exact Kd.R_nil _ _ _ _ _ | exact Kd.N_nil _ _ _ _ _ | exact Kd.V_nil _ _ _ _ _ | exact Kd.Q_nil _ _ _ _ _ | exact Kd.S_nil _ _ _ _ _, Zz.i HB.out⟩
         rw [if_neg c26] at H
         have c26b0 : decide (x47_2 < (rd t461 4)) = false := decide_eq_false c26
         clear c26
         by_cases c47 : x0_2.toList = ([] : List UInt8)
         ·rw [if_pos c47] at H
          obtain ⟨c47b0, c47b1⟩ := Zr.y c47
          try (have c47b9 : x0_2.toList.isEmpty = true := List.isEmpty_iff.mpr (beq_iff_eq.mp c47b0))
          clear c47
          replace H := Option.bind_eq_some_iff.mp H
          obtain ⟨t483, A480, H⟩ := H
          try dsimp only at H
          have A48 := Aside0.mk A480
          clear A480
          by_cases c49 : t483 = 0
          ·rw [if_pos c49] at H
           obtain ⟨c49b0, c49b1⟩ := Zr.y c49
           clear c49
           simp only [Option.some.injEq, Prod.mk.injEq] at H
           obtain ⟨rfl, rfl, rfl, rfl, rfl, rfl⟩ := H
           have hnb50 := NB472_460.out
           have hnc50 := NB460_472.out
           have hcz51 := Zz.c5 BK472.out
           have hfz51 := blk_frozen BK472.out
           obtain ⟨Ao52, co52, eo52⟩ := Kd.R_slice HO_473004.out
           subst eo52
           go_wp2_with (first | (go_at_call 60; (with_reducible refine (batch_Check.calls k2 (rd t461 0) (rd t461 1) (rd t461 2) (rd t461 3) _ _ x473004_2 t483 _ ?side1 ?side2 A48.out).mono ?_); (case side1 => repeat (first | exact (Kd.R_reads' HO_473004.out).2.2 | (with_reducible refine Kd.C_alloc ?_ _) | (with_reducible refine Kd.C_drewN ?_ _) | (with_reducible refine Kd.C_drew ?_))); (case side2 => exact (Kd.R_reads' HO_473004.out).2.1); rintro e w53 ⟨rfl, hb⟩; replace HO_473004 := Aside0.mk (Kd.R_below (Zz.r HO_473004.out) hb); replace BK460 := Aside0.mk (Zz.bb BK460.out hb); replace BK472 := Aside0.mk (Zz.bb BK472.out hb); replace HB := Aside0.mk (below_step (Zz.i HB.out) hb); (try clear hb); have hcz54 := Zz.c5 BK472.out; have hfz54 := blk_frozen BK472.out; have hcz55 := Zz.c5 BK460.out; have hfz55 := blk_frozen BK460.out))
           refine bodyPost_ret (results_ct rfl _ _ gb460 41 #[.int .i64 (rd t461 0), .int .i64 (rd t461 1), .int .i64 (rd t461 2), .int .i64 (rd t461 3), .slice Ao52 x473004_2.length co52] (0, 0) _ rfl (by (with_reducible repeat (first | refine blk_drewN ?_ _ | refine blk_drew ?_ | refine blk_alloc ?_ _)); exact Zz.u5_0_4 BK460.out) Try.underlying41 rfl (by kernel_rfl)) rfl ?_
           exact ⟨_, Zr.e, by (with_reducible repeat (first | apply Kd.R_alloc | apply Kd.R_drewN | apply Kd.R_drew)); exact Kd.R_mono (Zz.f5 (Kd.R_types HO_473004.out BK460.out (by decide)) (fun _ hk => hk.2)) (fun _ hk => trivial), Zz.i HB.out⟩
          rw [if_neg c49] at H
          obtain ⟨c49b0, c49b1⟩ := Zr.n c49
          simp only [Option.some.injEq, Prod.mk.injEq] at H
          obtain ⟨rfl, rfl, rfl, rfl, rfl, rfl⟩ := H
          have hnb56 := NB472_460.out
          have hnc56 := NB460_472.out
          have hcz57 := Zz.c5 BK472.out
          have hfz57 := blk_frozen BK472.out
          obtain ⟨Ao58, co58, eo58⟩ := Kd.R_slice HO_473004.out
          subst eo58
          go_wp2_with (first | (go_at_call 60; (with_reducible refine (batch_Check.calls k2 (rd t461 0) (rd t461 1) (rd t461 2) (rd t461 3) _ _ x473004_2 t483 _ ?side1 ?side2 A48.out).mono ?_); (case side1 => repeat (first | exact (Kd.R_reads' HO_473004.out).2.2 | (with_reducible refine Kd.C_alloc ?_ _) | (with_reducible refine Kd.C_drewN ?_ _) | (with_reducible refine Kd.C_drew ?_))); (case side2 => exact (Kd.R_reads' HO_473004.out).2.1); rintro e w59 ⟨rfl, hb⟩; replace HO_473004 := Aside0.mk (Kd.R_below (Zz.r HO_473004.out) hb); replace BK460 := Aside0.mk (Zz.bb BK460.out hb); replace BK472 := Aside0.mk (Zz.bb BK472.out hb); replace HB := Aside0.mk (below_step (Zz.i HB.out) hb); (try clear hb); have hcz60 := Zz.c5 BK460.out; have hfz60 := blk_frozen BK460.out))
          refine bodyPost_ret (results_ct rfl _ _ gb460 41 #[.int .i64 0, .int .i64 0, .int .i64 0, .int .i64 0, .slice none 0 0] (0, 0) _ rfl (by (with_reducible repeat (first | refine blk_drewN ?_ _ | refine blk_drew ?_ | refine blk_alloc ?_ _)); exact Zz.u5_0_4 BK460.out) Try.underlying41 rfl (by kernel_rfl)) rfl ?_
          exact ⟨_, Zr.e, by first | exact Kd.R_nil _ _ _ _ _ | exact Kd.N_nil _ _ _ _ _ | exact Kd.V_nil _ _ _ _ _ | exact Kd.Q_nil _ _ _ _ _ | exact Kd.S_nil _ _ _ _ _, Zz.i HB.out⟩
         rw [if_neg c47] at H
         obtain ⟨c47b0, c47b1⟩ := Zr.n c47
         try (have c47b9 : x0_2.toList.isEmpty = false := by rw [List.isEmpty_eq_false_iff]; exact beq_eq_false_iff_ne.mp c47b0)
         simp only [Option.some.injEq, Prod.mk.injEq] at H
         obtain ⟨rfl, rfl, rfl, rfl, rfl, rfl⟩ := H
         have hnb61 := NB460_472.out
         have hnc61 := NB472_460.out
         have hcz62 := Zz.c5 BK460.out
         have hfz62 := blk_frozen BK460.out
         go_wp2
         refine bodyPost_ret (results_ct rfl _ _ gb460 41 #[.int .i64 0, .int .i64 0, .int .i64 0, .int .i64 0, .slice none 0 0] (0, 0) _ rfl (by (with_reducible repeat (first | refine blk_drewN ?_ _ | refine blk_drew ?_ | refine blk_alloc ?_ _)); exact Zz.u5_0_4 BK460.out) Try.underlying41 rfl (by kernel_rfl)) rfl ?_
         exact ⟨_, Zr.e, by first | exact Kd.R_nil _ _ _ _ _ | exact Kd.N_nil _ _ _ _ _ | exact Kd.V_nil _ _ _ _ _ | exact Kd.Q_nil _ _ _ _ _ | exact Kd.S_nil _ _ _ _ _, Zz.i HB.out⟩
      rw [if_neg c17] at H
      exact absurd H (by simp)
     rw [if_neg c16] at H
     exact absurd H (by simp)
    rw [if_neg c15] at H
    exact absurd H (by simp)
   rw [if_neg c14] at H
   exact absurd H (by simp)
  rw [if_neg c13] at H
  exact absurd H (by simp)

end Go.Proofs.Ytikbpjdgihheiaa.P
end
