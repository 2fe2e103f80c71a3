-- Written by wip/mk.py of this repo: the kit's print program, with contracts of our own among its functions (merge.py: Px37).
import Derived.Test.YtikbpjdgihheiaaM0
import Derived.Test.YtikbpjdgihheiaaZz
import Derived.Test.YtikbpjdgihheiaaZr
section
namespace Go.Proofs.Ytikbpjdgihheiaa.P
open Go.RowKit Go.Proofs.YtikbpjdgihheiaaW.PrintWords Go.Proofs.YtikbpjdgihheiaaW.PrintLast Go.Proofs.YtikbpjdgihheiaaW.PrintMore
attribute [local go_sem] max2_int min2_int max_two min_two max_three min_three max_four min_four   -- for this text's walks alone
attribute [local go_sem ↓] Kp.LDAsk_in
attribute [local go_sem] Kp.LDAsk_run
set_option linter.unusedVariables false
set_option linter.unusedSimpArgs false

/-! ### headgateref18_of: function 50 -/
theorem headgateref18_of.far18 {W : World} {g : Nat} {a : Addr} {x : Option Value} (h : a.block ≠ g) {o0 o1 o2 o3 o4 o5 o6 o7 o8 o9 o10 o11 o12 o13 o14 o15 o16 o17 : Nat} {v0 v1 v2 v3 v4 v5 v6 v7 v8 v9 v10 v11 v12 v13 v14 v15 v16 v17 : Value} (e : W.cell? a = x) : ((((((((((((((((((W.setCell ⟨g, o0, none⟩ v0).setCell ⟨g, o1, none⟩ v1).setCell ⟨g, o2, none⟩ v2).setCell ⟨g, o3, none⟩ v3).setCell ⟨g, o4, none⟩ v4).setCell ⟨g, o5, none⟩ v5).setCell ⟨g, o6, none⟩ v6).setCell ⟨g, o7, none⟩ v7).setCell ⟨g, o8, none⟩ v8).setCell ⟨g, o9, none⟩ v9).setCell ⟨g, o10, none⟩ v10).setCell ⟨g, o11, none⟩ v11).setCell ⟨g, o12, none⟩ v12).setCell ⟨g, o13, none⟩ v13).setCell ⟨g, o14, none⟩ v14).setCell ⟨g, o15, none⟩ v15).setCell ⟨g, o16, none⟩ v16).setCell ⟨g, o17, none⟩ v17).cell? a = x := ((cell_far (p := ⟨g, o17, none⟩) h v17).trans ((cell_far (p := ⟨g, o16, none⟩) h v16).trans ((cell_far (p := ⟨g, o15, none⟩) h v15).trans ((cell_far (p := ⟨g, o14, none⟩) h v14).trans ((cell_far (p := ⟨g, o13, none⟩) h v13).trans ((cell_far (p := ⟨g, o12, none⟩) h v12).trans ((cell_far (p := ⟨g, o11, none⟩) h v11).trans ((cell_far (p := ⟨g, o10, none⟩) h v10).trans ((cell_far (p := ⟨g, o9, none⟩) h v9).trans ((cell_far (p := ⟨g, o8, none⟩) h v8).trans ((cell_far (p := ⟨g, o7, none⟩) h v7).trans ((cell_far (p := ⟨g, o6, none⟩) h v6).trans ((cell_far (p := ⟨g, o5, none⟩) h v5).trans ((cell_far (p := ⟨g, o4, none⟩) h v4).trans ((cell_far (p := ⟨g, o3, none⟩) h v3).trans ((cell_far (p := ⟨g, o2, none⟩) h v2).trans ((cell_far (p := ⟨g, o1, none⟩) h v1).trans ((cell_far (p := ⟨g, o0, none⟩) h v0).trans e))))))))))))))))))
def headgateref18_of.f (a0 : Int) (a1 : Int) (l2 : List Int) : Option (Int × Int × Int × Int × Int × Int × Int × Int × Int × Int × Int × Int × Bool × Int × Int × Int × Int × (List (S57))) := if 0 < (l2.length : Int) then (if 1 < (l2.length : Int) then (if 2 < (l2.length : Int) then (if 3 < (l2.length : Int) then (if 4 < (l2.length : Int) then (if 5 < (l2.length : Int) then (if 6 < (l2.length : Int) then (if 7 < (l2.length : Int) then (if 8 < (l2.length : Int) then (if 9 < (l2.length : Int) then (if 10 < (l2.length : Int) then (some (a0, a1, rd l2 0, rd l2 1, rd l2 2, rd l2 3, rd l2 4, rd l2 5, rd l2 6, rd l2 7, rd l2 8, rd l2 9, ((rd l2 10) == 1), 0, 0, 0, 0, ([] : List (S57)))) else (none)) else (none)) else (none)) else (none)) else (none)) else (none)) else (none)) else (none)) else (none)) else (none)) else (none)
def headgateref18_of.T1 : Bool × List (List Nat × List Nat) := (true, [([], []), ([], []), ([], []), ([2], [2]), ([3], [3]), ([], []), ([5], [5]), ([6], [6]), ([], []), ([8], [8]), ([9], [9]), ([], []), ([11], [11]), ([12], [12]), ([], []), ([14], [14]), ([15], [15]), ([], []), ([17], [17]), ([18], [18]), ([], []), ([20], [20]), ([21], [21]), ([], []), ([23], [23]), ([24], [24]), ([], []), ([26], [26]), ([27], [27]), ([], []), ([29], [29]), ([30], [30]), ([], []), ([32], [32]), ([33], [33]), ([34], [34]), ([0, 1, 4, 7, 10, 13, 16, 19, 22, 25, 28, 31, 35], [0, 1, 4, 7, 10, 13, 16, 19, 22, 25, 28, 31, 35]), ([36, 0, 1, 2, 3, 4, 5, 6, 7, 8, 9, 10, 11, 12, 13, 14, 15, 16, 17, 18, 19, 20, 21, 22, 23, 24, 25, 26, 27, 28, 29, 30, 31, 32, 33, 34, 35, 36], [36])])
def headgateref18_of.B1 : List Nat := [0, 0, 0, 4, 12, 0, 32, 96, 0, 256, 768, 0, 2048, 6144, 0, 16384, 49152, 0, 131072, 393216, 0, 1048576, 3145728, 0, 8388608, 25165824, 0, 67108864, 201326592, 0, 536870912, 1610612736, 0, 4294967296, 12884901888, 30064771072, 68719476735, 137438953471]
theorem headgateref18_of.tab1 : rtab .any (opsOf Try.f50 1) = headgateref18_of.T1 := by kernel_rfl
theorem headgateref18_of.bits1 : waitsOk headgateref18_of.T1.2 headgateref18_of.B1 = true := by kernel_rfl
set_option maxHeartbeats 8000000 in
set_option maxRecDepth 100000 in
theorem headgateref18_of.calls (a0 : Int) (a1 : Int) (A2 : Option Addr) (c2 : Nat) (l2 : List Int) (r1 : Int) (r2 : Int) (r3 : Int) (r4 : Int) (r5 : Int) (r6 : Int) (r7 : Int) (r8 : Int) (r9 : Int) (r10 : Int) (r11 : Int) (r12 : Int) (r13 : Bool) (r14 : Int) (r15 : Int) (r16 : Int) (r17 : Int) (r18 : List (S57)) (w : World) (hr2 : Kd.C (Kd.int .i64) w A2 l2.length l2) (hc2 : l2.length ≤ c2) (h : headgateref18_of.f a0 a1 l2 = some (r1, r2, r3, r4, r5, r6, r7, r8, r9, r10, r11, r12, r13, r14, r15, r16, r17, r18)) :
    Calls Try.prog 50 #[.int .i64 a0, .int .i64 a1, .slice A2 l2.length c2] w fun e w' => ∃ v17_ : Value, e = .returned (.agg #[.int .i64 r1, .int .i64 r2, .int .i64 r3, .int .i64 r4, .int .i64 r5, .int .i64 r6, .int .i64 r7, .int .i64 r8, .int .i64 r9, .int .i64 r10, .int .i64 r11, .int .i64 r12, .bool r13, .int .i64 r14, .int .i64 r15, .int .i64 r16, .int .i64 r17, v17_]) ∧ Kd.R k57 57 w' w.heap.size (fun _ => True) v17_ r18 ∧ Below w.heap.size w w' := by
 have hu43 := Try.underlying43
 have HR2 := Aside0.mk hr2
 have HC2 := Aside0.mk hc2
 clear hr2 hc2
 have HB := Aside0.mk (Below.refl w.heap.size w)
 have H : (if 0 < (l2.length : Int) then (if 1 < (l2.length : Int) then (if 2 < (l2.length : Int) then (if 3 < (l2.length : Int) then (if 4 < (l2.length : Int) then (if 5 < (l2.length : Int) then (if 6 < (l2.length : Int) then (if 7 < (l2.length : Int) then (if 8 < (l2.length : Int) then (if 9 < (l2.length : Int) then (if 10 < (l2.length : Int) then (some (a0, a1, rd l2 0, rd l2 1, rd l2 2, rd l2 3, rd l2 4, rd l2 5, rd l2 6, rd l2 7, rd l2 8, rd l2 9, ((rd l2 10) == 1), 0, 0, 0, 0, ([] : List (S57)))) else (none)) else (none)) else (none)) else (none)) else (none)) else (none)) else (none)) else (none)) else (none)) else (none)) else (none)) = some (r1, r2, r3, r4, r5, r6, r7, r8, r9, r10, r11, r12, r13, r14, r15, r16, r17, r18) := h
 clear h
 by_cases c4 : 0 < (l2.length : Int)
 ·rw [if_pos c4] at H
  have c4b0 : decide (0 < (l2.length : Int)) = true := decide_eq_true c4
  have c4b1 : decide (0 < l2.length) = true := decide_eq_true (by omega)
  clear c4
  by_cases c5 : 1 < (l2.length : Int)
  ·rw [if_pos c5] at H
   have c5b0 : decide (1 < (l2.length : Int)) = true := decide_eq_true c5
   have c5b1 : decide (1 < l2.length) = true := decide_eq_true (by omega)
   clear c5
   by_cases c6 : 2 < (l2.length : Int)
   ·rw [if_pos c6] at H
    have c6b0 : decide (2 < (l2.length : Int)) = true := decide_eq_true c6
    have c6b1 : decide (2 < l2.length) = true := decide_eq_true (by omega)
    clear c6
    by_cases c7 : 3 < (l2.length : Int)
    ·rw [if_pos c7] at H
     have c7b0 : decide (3 < (l2.length : Int)) = true := decide_eq_true c7
     have c7b1 : decide (3 < l2.length) = true := decide_eq_true (by omega)
     clear c7
     by_cases c8 : 4 < (l2.length : Int)
     ·rw [if_pos c8] at H
      have c8b0 : decide (4 < (l2.length : Int)) = true := decide_eq_true c8
      have c8b1 : decide (4 < l2.length) = true := decide_eq_true (by omega)
      clear c8
      by_cases c9 : 5 < (l2.length : Int)
      ·rw [if_pos c9] at H
       have c9b0 : decide (5 < (l2.length : Int)) = true := decide_eq_true c9
       have c9b1 : decide (5 < l2.length) = true := decide_eq_true (by omega)
       clear c9
       by_cases c10 : 6 < (l2.length : Int)
       ·rw [if_pos c10] at H
        have c10b0 : decide (6 < (l2.length : Int)) = true := decide_eq_true c10
        have c10b1 : decide (6 < l2.length) = true := decide_eq_true (by omega)
        clear c10
        by_cases c11 : 7 < (l2.length : Int)
        ·rw [if_pos c11] at H
         have c11b0 : decide (7 < (l2.length : Int)) = true := decide_eq_true c11
         have c11b1 : decide (7 < l2.length) = true := decide_eq_true (by omega)
         clear c11
         by_cases c12 : 8 < (l2.length : Int)
         ·rw [if_pos c12] at H
          have c12b0 : decide (8 < (l2.length : Int)) = true := decide_eq_true c12
          have c12b1 : decide (8 < l2.length) = true := decide_eq_true (by omega)
          clear c12
          by_cases c13 : 9 < (l2.length : Int)
          ·rw [if_pos c13] at H
           have c13b0 : decide (9 < (l2.length : Int)) = true := decide_eq_true c13
           have c13b1 : decide (9 < l2.length) = true := decide_eq_true (by omega)
           clear c13
           by_cases c14 : 10 < (l2.length : Int)
           ·rw [if_pos c14] at H
            have c14b0 : decide (10 < (l2.length : Int)) = true := decide_eq_true c14
            have c14b1 : decide (10 < l2.length) = true := decide_eq_true (by omega)
            clear c14
            simp only [Option.some.injEq, Prod.mk.injEq] at H
            obtain ⟨rfl, rfl, rfl, rfl, rfl, rfl, rfl, rfl, rfl, rfl, rfl, rfl, rfl, rfl, rfl, rfl, rfl, rfl⟩ := H
            go_enter Try.func50, Try.ntmps50
            try go_wp2_with (first | ((with_reducible refine gate_dst (N := 6) rfl ?_); refine box_event ?hg (N := 6) ?hd (cs := #[.int .i64 0, .int .i64 0, .int .i64 0, .int .i64 0, .int .i64 0, .int .i64 0, .int .i64 0, .int .i64 0, .int .i64 0, .int .i64 0, .int .i64 0, .int .i64 0, .bool false, .int .i64 0, .int .i64 0, .int .i64 0, .int .i64 0, .slice none 0 0]) (t := 43) ?hr ?_; (case hd => rfl); (case hg => rfl); (case hr => first | (go_simp; done) | (go_simp; rfl)); intro gb522 hg w15 hbox hb; have BK522 := Aside0.mk (hbox); have GW522 := Aside0.mk (Zz.ge hg HB.out); have GE522 := Aside0.mk (Zz.ge hg HB.out); replace HB := Aside0.mk (below_step (Zz.i HB.out) hb); clear hb hbox hg))
            have n0_ := Aside0.mk (blk_drew BK522.out)
            have n1_ := Aside0.mk (below_drew1 HB.out)
            clear BK522
            clear HB
            have BK522 := n0_
            have HB := n1_
            clear n0_ n1_
            have p523 : 0 ≤ (0 : Int) := (by omega)
            have q523 : 0 < (l2.length : Int) := of_decide_eq_true (by first | (with_reducible assumption) | assumption)
            obtain ⟨ad523, e523, hx523_0⟩ := Kd.at_int HR2.out 0 p523 q523
            have hw523_0 := hx523_0
            (try rw [show ((0 : Int)).toNat = 0 from rfl] at hw523_0)
            (try rw [show 0 * 1 = 0 from rfl] at hw523_0)
            (try rw [Addr.add_zero'] at hw523_0)
            cases e523
            have qi523 : (0 < l2.length) = True := eq_true (by omega)
            (try rw [show ((0 : Int)).toNat = 0 from rfl] at hx523_0)
            (try rw [Addr.add_zero'] at hx523_0)
            replace hx523_0 := (HB.out.cell (World.block_lt_of_cell? w _ hx523_0)).trans hx523_0
            replace p523 := eq_true p523
            replace q523 := eq_true q523
            have p524 : 0 ≤ (1 : Int) := (by omega)
            have q524 : 1 < (l2.length : Int) := of_decide_eq_true (by first | (with_reducible assumption) | assumption)
            obtain ⟨ad524, e524, hx524_0⟩ := Kd.at_int HR2.out 1 p524 q524
            have hw524_0 := hx524_0
            (try rw [show ((1 : Int)).toNat = 1 from rfl] at hw524_0)
            (try rw [show 1 * 1 = 1 from rfl] at hw524_0)
            (try simp only [Nat.reduceMul, Nat.reduceEqDiff, Go.Addr.add, ↓reduceIte] at hw524_0)
            obtain rfl : ad523 = ad524 := (by injection e524)
            (try simp only [show (1 : Int).toNat = 1 from rfl, Nat.reduceMul, Nat.reduceEqDiff, Go.Addr.add, ↓reduceIte] at hx524_0)
            have qi524 : (1 < l2.length) = True := eq_true (by omega)
            (try rw [show ((1 : Int)).toNat = 1 from rfl] at hx524_0)
            replace hx524_0 := (HB.out.cell (World.block_lt_of_cell? w _ hx524_0)).trans hx524_0
            replace p524 := eq_true p524
            replace q524 := eq_true q524
            have p525 : 0 ≤ (2 : Int) := (by omega)
            have q525 : 2 < (l2.length : Int) := of_decide_eq_true (by first | (with_reducible assumption) | assumption)
            obtain ⟨ad525, e525, hx525_0⟩ := Kd.at_int HR2.out 2 p525 q525
            have hw525_0 := hx525_0
            (try rw [show ((2 : Int)).toNat = 2 from rfl] at hw525_0)
            (try rw [show 2 * 1 = 2 from rfl] at hw525_0)
            (try simp only [Nat.reduceMul, Nat.reduceEqDiff, Go.Addr.add, ↓reduceIte] at hw525_0)
            obtain rfl : ad523 = ad525 := (by injection e525)
            (try simp only [show (2 : Int).toNat = 2 from rfl, Nat.reduceMul, Nat.reduceEqDiff, Go.Addr.add, ↓reduceIte] at hx525_0)
            have qi525 : (2 < l2.length) = True := eq_true (by omega)
            (try rw [show ((2 : Int)).toNat = 2 from rfl] at hx525_0)
            replace hx525_0 := (HB.out.cell (World.block_lt_of_cell? w _ hx525_0)).trans hx525_0
            replace p525 := eq_true p525
            replace q525 := eq_true q525
            have p526 : 0 ≤ (3 : Int) := (by omega)
            have q526 : 3 < (l2.length : Int) := of_decide_eq_true (by first | (with_reducible assumption) | assumption)
            obtain ⟨ad526, e526, hx526_0⟩ := Kd.at_int HR2.out 3 p526 q526
            have hw526_0 := hx526_0
            (try rw [show ((3 : Int)).toNat = 3 from rfl] at hw526_0)
            (try rw [show 3 * 1 = 3 from rfl] at hw526_0)
            (try simp only [Nat.reduceMul, Nat.reduceEqDiff, Go.Addr.add, ↓reduceIte] at hw526_0)
            obtain rfl : ad523 = ad526 := (by injection e526)
            (try simp only [show (3 : Int).toNat = 3 from rfl, Nat.reduceMul, Nat.reduceEqDiff, Go.Addr.add, ↓reduceIte] at hx526_0)
            have qi526 : (3 < l2.length) = True := eq_true (by omega)
            (try rw [show ((3 : Int)).toNat = 3 from rfl] at hx526_0)
            replace hx526_0 := (HB.out.cell (World.block_lt_of_cell? w _ hx526_0)).trans hx526_0
            replace p526 := eq_true p526
            replace q526 := eq_true q526
            have p527 : 0 ≤ (4 : Int) := (by omega)
            have q527 : 4 < (l2.length : Int) := of_decide_eq_true (by first | (with_reducible assumption) | assumption)
            obtain ⟨ad527, e527, hx527_0⟩ := Kd.at_int HR2.out 4 p527 q527
            have hw527_0 := hx527_0
            (try rw [show ((4 : Int)).toNat = 4 from rfl] at hw527_0)
            (try rw [show 4 * 1 = 4 from rfl] at hw527_0)
            (try simp only [Nat.reduceMul, Nat.reduceEqDiff, Go.Addr.add, ↓reduceIte] at hw527_0)
            obtain rfl : ad523 = ad527 := (by injection e527)
            (try simp only [show (4 : Int).toNat = 4 from rfl, Nat.reduceMul, Nat.reduceEqDiff, Go.Addr.add, ↓reduceIte] at hx527_0)
            have qi527 : (4 < l2.length) = True := eq_true (by omega)
            (try rw [show ((4 : Int)).toNat = 4 from rfl] at hx527_0)
            replace hx527_0 := (HB.out.cell (World.block_lt_of_cell? w _ hx527_0)).trans hx527_0
            replace p527 := eq_true p527
            replace q527 := eq_true q527
            have p528 : 0 ≤ (5 : Int) := (by omega)
            have q528 : 5 < (l2.length : Int) := of_decide_eq_true (by first | (with_reducible assumption) | assumption)
            obtain ⟨ad528, e528, hx528_0⟩ := Kd.at_int HR2.out 5 p528 q528
            have hw528_0 := hx528_0
            (try rw [show ((5 : Int)).toNat = 5 from rfl] at hw528_0)
            (try rw [show 5 * 1 = 5 from rfl] at hw528_0)
            (try simp only [Nat.reduceMul, Nat.reduceEqDiff, Go.Addr.add, ↓reduceIte] at hw528_0)
            obtain rfl : ad523 = ad528 := (by injection e528)
            (try simp only [show (5 : Int).toNat = 5 from rfl, Nat.reduceMul, Nat.reduceEqDiff, Go.Addr.add, ↓reduceIte] at hx528_0)
            have qi528 : (5 < l2.length) = True := eq_true (by omega)
            (try rw [show ((5 : Int)).toNat = 5 from rfl] at hx528_0)
            replace hx528_0 := (HB.out.cell (World.block_lt_of_cell? w _ hx528_0)).trans hx528_0
            replace p528 := eq_true p528
            replace q528 := eq_true q528
            have p529 : 0 ≤ (6 : Int) := (by omega)
            have q529 : 6 < (l2.length : Int) := of_decide_eq_true (by first | (with_reducible assumption) | assumption)
            obtain ⟨ad529, e529, hx529_0⟩ := Kd.at_int HR2.out 6 p529 q529
            have hw529_0 := hx529_0
            (try rw [show ((6 : Int)).toNat = 6 from rfl] at hw529_0)
            (try rw [show 6 * 1 = 6 from rfl] at hw529_0)
            (try simp only [Nat.reduceMul, Nat.reduceEqDiff, Go.Addr.add, ↓reduceIte] at hw529_0)
            obtain rfl : ad523 = ad529 := (by injection e529)
            (try simp only [show (6 : Int).toNat = 6 from rfl, Nat.reduceMul, Nat.reduceEqDiff, Go.Addr.add, ↓reduceIte] at hx529_0)
            have qi529 : (6 < l2.length) = True := eq_true (by omega)
            (try rw [show ((6 : Int)).toNat = 6 from rfl] at hx529_0)
            replace hx529_0 := (HB.out.cell (World.block_lt_of_cell? w _ hx529_0)).trans hx529_0
            replace p529 := eq_true p529
            replace q529 := eq_true q529
            have p530 : 0 ≤ (7 : Int) := (by omega)
            have q530 : 7 < (l2.length : Int) := of_decide_eq_true (by first | (with_reducible assumption) | assumption)
            obtain ⟨ad530, e530, hx530_0⟩ := Kd.at_int HR2.out 7 p530 q530
            have hw530_0 := hx530_0
            (try rw [show ((7 : Int)).toNat = 7 from rfl] at hw530_0)
            (try rw [show 7 * 1 = 7 from rfl] at hw530_0)
            (try simp only [Nat.reduceMul, Nat.reduceEqDiff, Go.Addr.add, ↓reduceIte] at hw530_0)
            obtain rfl : ad523 = ad530 := (by injection e530)
            (try simp only [show (7 : Int).toNat = 7 from rfl, Nat.reduceMul, Nat.reduceEqDiff, Go.Addr.add, ↓reduceIte] at hx530_0)
            have qi530 : (7 < l2.length) = True := eq_true (by omega)
            (try rw [show ((7 : Int)).toNat = 7 from rfl] at hx530_0)
            replace hx530_0 := (HB.out.cell (World.block_lt_of_cell? w _ hx530_0)).trans hx530_0
            replace p530 := eq_true p530
            replace q530 := eq_true q530
            have p531 : 0 ≤ (8 : Int) := (by omega)
            have q531 : 8 < (l2.length : Int) := of_decide_eq_true (by first | (with_reducible assumption) | assumption)
            obtain ⟨ad531, e531, hx531_0⟩ := Kd.at_int HR2.out 8 p531 q531
            have hw531_0 := hx531_0
            (try rw [show ((8 : Int)).toNat = 8 from rfl] at hw531_0)
            (try rw [show 8 * 1 = 8 from rfl] at hw531_0)
            (try simp only [Nat.reduceMul, Nat.reduceEqDiff, Go.Addr.add, ↓reduceIte] at hw531_0)
            obtain rfl : ad523 = ad531 := (by injection e531)
            (try simp only [show (8 : Int).toNat = 8 from rfl, Nat.reduceMul, Nat.reduceEqDiff, Go.Addr.add, ↓reduceIte] at hx531_0)
            have qi531 : (8 < l2.length) = True := eq_true (by omega)
            (try rw [show ((8 : Int)).toNat = 8 from rfl] at hx531_0)
            replace hx531_0 := (HB.out.cell (World.block_lt_of_cell? w _ hx531_0)).trans hx531_0
            replace p531 := eq_true p531
            replace q531 := eq_true q531
            have p532 : 0 ≤ (9 : Int) := (by omega)
            have q532 : 9 < (l2.length : Int) := of_decide_eq_true (by first | (with_reducible assumption) | assumption)
            obtain ⟨ad532, e532, hx532_0⟩ := Kd.at_int HR2.out 9 p532 q532
            have hw532_0 := hx532_0
            (try rw [show ((9 : Int)).toNat = 9 from rfl] at hw532_0)
            (try rw [show 9 * 1 = 9 from rfl] at hw532_0)
            (try simp only [Nat.reduceMul, Nat.reduceEqDiff, Go.Addr.add, ↓reduceIte] at hw532_0)
            obtain rfl : ad523 = ad532 := (by injection e532)
            (try simp only [show (9 : Int).toNat = 9 from rfl, Nat.reduceMul, Nat.reduceEqDiff, Go.Addr.add, ↓reduceIte] at hx532_0)
            have qi532 : (9 < l2.length) = True := eq_true (by omega)
            (try rw [show ((9 : Int)).toNat = 9 from rfl] at hx532_0)
            replace hx532_0 := (HB.out.cell (World.block_lt_of_cell? w _ hx532_0)).trans hx532_0
            replace p532 := eq_true p532
            replace q532 := eq_true q532
            have p533 : 0 ≤ (10 : Int) := (by omega)
            have q533 : 10 < (l2.length : Int) := of_decide_eq_true (by first | (with_reducible assumption) | assumption)
            obtain ⟨ad533, e533, hx533_0⟩ := Kd.at_int HR2.out 10 p533 q533
            have hw533_0 := hx533_0
            (try rw [show ((10 : Int)).toNat = 10 from rfl] at hw533_0)
            (try rw [show 10 * 1 = 10 from rfl] at hw533_0)
            (try simp only [Nat.reduceMul, Nat.reduceEqDiff, Go.Addr.add, ↓reduceIte] at hw533_0)
            obtain rfl : ad523 = ad533 := (by injection e533)
            (try simp only [show (10 : Int).toNat = 10 from rfl, Nat.reduceMul, Nat.reduceEqDiff, Go.Addr.add, ↓reduceIte] at hx533_0)
            have qi533 : (10 < l2.length) = True := eq_true (by omega)
            (try rw [show ((10 : Int)).toNat = 10 from rfl] at hx533_0)
            replace hx533_0 := (HB.out.cell (World.block_lt_of_cell? w _ hx533_0)).trans hx533_0
            replace p533 := eq_true p533
            replace q533 := eq_true q533
            refine start_ (n := 38) (S := fun w' => w'.cell? ad523 = some (.int .i64 (rd l2 0)) ∧ w'.cell? ⟨ad523.block, ad523.off + 1, none⟩ = some (.int .i64 (rd l2 1)) ∧ w'.cell? ⟨ad523.block, ad523.off + 2, none⟩ = some (.int .i64 (rd l2 2)) ∧ w'.cell? ⟨ad523.block, ad523.off + 3, none⟩ = some (.int .i64 (rd l2 3)) ∧ w'.cell? ⟨ad523.block, ad523.off + 4, none⟩ = some (.int .i64 (rd l2 4)) ∧ w'.cell? ⟨ad523.block, ad523.off + 5, none⟩ = some (.int .i64 (rd l2 5)) ∧ w'.cell? ⟨ad523.block, ad523.off + 6, none⟩ = some (.int .i64 (rd l2 6)) ∧ w'.cell? ⟨ad523.block, ad523.off + 7, none⟩ = some (.int .i64 (rd l2 7)) ∧ w'.cell? ⟨ad523.block, ad523.off + 8, none⟩ = some (.int .i64 (rd l2 8)) ∧ w'.cell? ⟨ad523.block, ad523.off + 9, none⟩ = some (.int .i64 (rd l2 9)) ∧ w'.cell? ⟨ad523.block, ad523.off + 10, none⟩ = some (.int .i64 (rd l2 10))) (ds := []) #[false, false, false, false, false, false, false, false, false, false, false, false, false, false, false, false, false, false, false, false, false, false, false, false, false, false, false, false, false, false, false, false, false, false, false, false, false, false] (by kernel_rfl) rfl rfl ⟨((HB.out.cell (World.block_lt_of_cell? w _ hw523_0)).trans hw523_0), ((HB.out.cell (World.block_lt_of_cell? w _ hw524_0)).trans hw524_0), ((HB.out.cell (World.block_lt_of_cell? w _ hw525_0)).trans hw525_0), ((HB.out.cell (World.block_lt_of_cell? w _ hw526_0)).trans hw526_0), ((HB.out.cell (World.block_lt_of_cell? w _ hw527_0)).trans hw527_0), ((HB.out.cell (World.block_lt_of_cell? w _ hw528_0)).trans hw528_0), ((HB.out.cell (World.block_lt_of_cell? w _ hw529_0)).trans hw529_0), ((HB.out.cell (World.block_lt_of_cell? w _ hw530_0)).trans hw530_0), ((HB.out.cell (World.block_lt_of_cell? w _ hw531_0)).trans hw531_0), ((HB.out.cell (World.block_lt_of_cell? w _ hw532_0)).trans hw532_0), ((HB.out.cell (World.block_lt_of_cell? w _ hw533_0)).trans hw533_0)⟩ (fun hHeld => ?_); refine with_tabW headgateref18_of.tab1 headgateref18_of.bits1 (fun HT_ HW_ => ?_)
            generalize w15.drew = w16 at BK522 HB hx523_0 hx524_0 hx525_0 hx526_0 hx527_0 hx528_0 hx529_0 hx530_0 hx531_0 hx532_0 hx533_0 hHeld ⊢
            refine Zr.pu 0 7 HT_.out ?_
            refine Zr.pu 1 8 HT_.out ?_
            refine Zr.pu 2 9 HT_.out ?_
            refine Zr.pu 3 10 HT_.out ?_
            refine Zr.pu 5 12 HT_.out ?_
            refine Zr.pu 6 13 HT_.out ?_
            refine Zr.pu 8 15 HT_.out ?_
            refine Zr.pu 9 16 HT_.out ?_
            refine Zr.pu 11 18 HT_.out ?_
            refine Zr.pu 12 19 HT_.out ?_
            refine Zr.pu 14 21 HT_.out ?_
            refine Zr.pu 15 22 HT_.out ?_
            refine Zr.pu 17 24 HT_.out ?_
            refine Zr.pu 18 25 HT_.out ?_
            refine Zr.pu 20 27 HT_.out ?_
            refine Zr.pu 21 28 HT_.out ?_
            refine Zr.pu 23 30 HT_.out ?_
            refine Zr.pu 24 31 HT_.out ?_
            refine Zr.pu 26 33 HT_.out ?_
            refine Zr.pu 27 34 HT_.out ?_
            refine Zr.pu 29 36 HT_.out ?_
            refine Zr.pu 30 37 HT_.out ?_
            refine Zr.pu 32 39 HT_.out ?_
            refine Zr.pu 33 40 HT_.out ?_
            refine Zr.ta 4 11 HT_.out HW_.out hHeld ?_
            refine Zr.ta 7 14 HT_.out HW_.out hHeld ?_
            refine Zr.ta 10 17 HT_.out HW_.out hHeld ?_
            refine Zr.ta 13 20 HT_.out HW_.out hHeld ?_
            refine Zr.ta 16 23 HT_.out HW_.out hHeld ?_
            refine Zr.ta 19 26 HT_.out HW_.out hHeld ?_
            refine Zr.ta 22 29 HT_.out HW_.out hHeld ?_
            refine Zr.ta 25 32 HT_.out HW_.out hHeld ?_
            refine Zr.ta 28 35 HT_.out HW_.out hHeld ?_
            refine Zr.ta 31 38 HT_.out HW_.out hHeld ?_
            refine Zr.ta 34 41 HT_.out HW_.out hHeld ?_
            refine Zr.pu 35 42 HT_.out ?_
            refine Zr.pu 36 43 HT_.out ?_
            refine one_ (i := 37) (N := none) #[true, true, true, true, true, true, true, true, true, true, true, true, true, true, true, true, true, true, true, true, true, true, true, true, true, true, true, true, true, true, true, true, true, true, true, true, true, true] rfl rfl (one_of HT_.out (by kernel_rfl)) (by decide) (fun K hK => ?_)
            have hs17 : w16.cell? ⟨gb522, 0, none⟩ = some (.int .i64 0) := (blk_cell BK522.out 0).trans rfl
            have hfs17 := blk_frozen BK522.out 0
            have hs18 : w16.cell? ⟨gb522, 1, none⟩ = some (.int .i64 0) := (blk_cell BK522.out 1).trans rfl
            have hfs18 := blk_frozen BK522.out 1
            have hs19 : w16.cell? ⟨gb522, 2, none⟩ = some (.int .i64 0) := (blk_cell BK522.out 2).trans rfl
            have hfs19 := blk_frozen BK522.out 2
            have hs20 : w16.cell? ⟨gb522, 3, none⟩ = some (.int .i64 0) := (blk_cell BK522.out 3).trans rfl
            have hfs20 := blk_frozen BK522.out 3
            have hs21 : w16.cell? ⟨gb522, 4, none⟩ = some (.int .i64 0) := (blk_cell BK522.out 4).trans rfl
            have hfs21 := blk_frozen BK522.out 4
            have hs22 : w16.cell? ⟨gb522, 5, none⟩ = some (.int .i64 0) := (blk_cell BK522.out 5).trans rfl
            have hfs22 := blk_frozen BK522.out 5
            have hs23 : w16.cell? ⟨gb522, 6, none⟩ = some (.int .i64 0) := (blk_cell BK522.out 6).trans rfl
            have hfs23 := blk_frozen BK522.out 6
            have hs24 : w16.cell? ⟨gb522, 7, none⟩ = some (.int .i64 0) := (blk_cell BK522.out 7).trans rfl
            have hfs24 := blk_frozen BK522.out 7
            have hs25 : w16.cell? ⟨gb522, 8, none⟩ = some (.int .i64 0) := (blk_cell BK522.out 8).trans rfl
            have hfs25 := blk_frozen BK522.out 8
            have hs26 : w16.cell? ⟨gb522, 9, none⟩ = some (.int .i64 0) := (blk_cell BK522.out 9).trans rfl
            have hfs26 := blk_frozen BK522.out 9
            have hs27 : w16.cell? ⟨gb522, 10, none⟩ = some (.int .i64 0) := (blk_cell BK522.out 10).trans rfl
            have hfs27 := blk_frozen BK522.out 10
            have hs28 : w16.cell? ⟨gb522, 11, none⟩ = some (.int .i64 0) := (blk_cell BK522.out 11).trans rfl
            have hfs28 := blk_frozen BK522.out 11
            have hs29 : w16.cell? ⟨gb522, 12, none⟩ = some (.bool false) := (blk_cell BK522.out 12).trans rfl
            have hfs29 := blk_frozen BK522.out 12
            have hs30 : w16.cell? ⟨gb522, 13, none⟩ = some (.int .i64 0) := (blk_cell BK522.out 13).trans rfl
            have hfs30 := blk_frozen BK522.out 13
            have hs31 : w16.cell? ⟨gb522, 14, none⟩ = some (.int .i64 0) := (blk_cell BK522.out 14).trans rfl
            have hfs31 := blk_frozen BK522.out 14
            have hs32 : w16.cell? ⟨gb522, 15, none⟩ = some (.int .i64 0) := (blk_cell BK522.out 15).trans rfl
            have hfs32 := blk_frozen BK522.out 15
            have hs33 : w16.cell? ⟨gb522, 16, none⟩ = some (.int .i64 0) := (blk_cell BK522.out 16).trans rfl
            have hfs33 := blk_frozen BK522.out 16
            have hs34 : w16.cell? ⟨gb522, 17, none⟩ = some (.slice none 0 0) := (blk_cell BK522.out 17).trans rfl
            have hfs34 := blk_frozen BK522.out 17
            refine skip_ (w1 := ?_) (by rfl) rfl ?_ ?_
            rotate_left
            ·go_simp
             rfl
            refine hK.out _ _ ⟨(headgateref18_of.far18 (g := gb522) (by first | exact HNE0_522 | exact Nat.ne_of_lt (Nat.lt_of_lt_of_le (by have := World.block_lt_of_cell? _ _ hw523_0; first | rwa [add_block] at this | exact this) GW522.out) | (rw [add_block]; exact Nat.ne_of_lt (Nat.lt_of_lt_of_le (by have := World.block_lt_of_cell? _ _ hw523_0; first | rwa [add_block] at this | exact this) GW522.out)) | (show (Addr.add _ _).block ≠ _; rw [add_block]; exact Nat.ne_of_lt (Nat.lt_of_lt_of_le (by have := World.block_lt_of_cell? _ _ hw523_0; first | rwa [add_block] at this | exact this) GW522.out)) | (dsimp only; exact Nat.ne_of_lt (Nat.lt_of_lt_of_le (by have := World.block_lt_of_cell? _ _ hw523_0; first | rwa [add_block] at this | exact this) GW522.out))) (hHeld.1)), (headgateref18_of.far18 (g := gb522) (by first | exact HNE1_522 | exact Nat.ne_of_lt (Nat.lt_of_lt_of_le (by have := World.block_lt_of_cell? _ _ hw524_0; first | rwa [add_block] at this | exact this) GW522.out) | (rw [add_block]; exact Nat.ne_of_lt (Nat.lt_of_lt_of_le (by have := World.block_lt_of_cell? _ _ hw524_0; first | rwa [add_block] at this | exact this) GW522.out)) | (show (Addr.add _ _).block ≠ _; rw [add_block]; exact Nat.ne_of_lt (Nat.lt_of_lt_of_le (by have := World.block_lt_of_cell? _ _ hw524_0; first | rwa [add_block] at this | exact this) GW522.out)) | (dsimp only; exact Nat.ne_of_lt (Nat.lt_of_lt_of_le (by have := World.block_lt_of_cell? _ _ hw524_0; first | rwa [add_block] at this | exact this) GW522.out))) (hHeld.2.1)), (headgateref18_of.far18 (g := gb522) (by first | exact HNE2_522 | exact Nat.ne_of_lt (Nat.lt_of_lt_of_le (by have := World.block_lt_of_cell? _ _ hw525_0; first | rwa [add_block] at this | exact this) GW522.out) | (rw [add_block]; exact Nat.ne_of_lt (Nat.lt_of_lt_of_le (by have := World.block_lt_of_cell? _ _ hw525_0; first | rwa [add_block] at this | exact this) GW522.out)) | (show (Addr.add _ _).block ≠ _; rw [add_block]; exact Nat.ne_of_lt (Nat.lt_of_lt_of_le (by have := World.block_lt_of_cell? _ _ hw525_0; first | rwa [add_block] at this | exact this) GW522.out)) | (dsimp only; exact Nat.ne_of_lt (Nat.lt_of_lt_of_le (by have := World.block_lt_of_cell? _ _ hw525_0; first | rwa [add_block] at this | exact this) GW522.out))) (hHeld.2.2.1)), (headgateref18_of.far18 (g := gb522) (by first | exact HNE3_522 | exact Nat.ne_of_lt (Nat.lt_of_lt_of_le (by have := World.block_lt_of_cell? _ _ hw526_0; first | rwa [add_block] at this | exact this) GW522.out) | (rw [add_block]; exact Nat.ne_of_lt (Nat.lt_of_lt_of_le (by have := World.block_lt_of_cell? _ _ hw526_0; first | rwa [add_block] at this | exact this) GW522.out)) | (show (Addr.add _ _).block ≠ _; rw [add_block]; exact Nat.ne_of_lt (Nat.lt_of_lt_of_le (by have := World.block_lt_of_cell? _ _ hw526_0; first | rwa [add_block] at this | exact this) GW522.out)) | (dsimp only; exact Nat.ne_of_lt (Nat.lt_of_lt_of_le (by have := World.block_lt_of_cell? _ _ hw526_0; first | rwa [add_block] at this | exact this) GW522.out))) (hHeld.2.2.2.1)), (headgateref18_of.far18 (g := gb522) (by first | exact HNE4_522 | exact Nat.ne_of_lt (Nat.lt_of_lt_of_le (by have := World.block_lt_of_cell? _ _ hw527_0; first | rwa [add_block] at this | exact this) GW522.out) | (rw [add_block]; exact Nat.ne_of_lt (Nat.lt_of_lt_of_le (by have := World.block_lt_of_cell? _ _ hw527_0; first | rwa [add_block] at this | exact this) GW522.out)) | (show (Addr.add _ _).block ≠ _; rw [add_block]; exact Nat.ne_of_lt (Nat.lt_of_lt_of_le (by have := World.block_lt_of_cell? _ _ hw527_0; first | rwa [add_block] at this | exact this) GW522.out)) | (dsimp only; exact Nat.ne_of_lt (Nat.lt_of_lt_of_le (by have := World.block_lt_of_cell? _ _ hw527_0; first | rwa [add_block] at this | exact this) GW522.out))) (hHeld.2.2.2.2.1)), (headgateref18_of.far18 (g := gb522) (by first | exact HNE5_522 | exact Nat.ne_of_lt (Nat.lt_of_lt_of_le (by have := World.block_lt_of_cell? _ _ hw528_0; first | rwa [add_block] at this | exact this) GW522.out) | (rw [add_block]; exact Nat.ne_of_lt (Nat.lt_of_lt_of_le (by have := World.block_lt_of_cell? _ _ hw528_0; first | rwa [add_block] at this | exact this) GW522.out)) | (show (Addr.add _ _).block ≠ _; rw [add_block]; exact Nat.ne_of_lt (Nat.lt_of_lt_of_le (by have := World.block_lt_of_cell? _ _ hw528_0; first | rwa [add_block] at this | exact this) GW522.out)) | (dsimp only; exact Nat.ne_of_lt (Nat.lt_of_lt_of_le (by have := World.block_lt_of_cell? _ _ hw528_0; first | rwa [add_block] at this | exact this) GW522.out))) (hHeld.2.2.2.2.2.1)), (headgateref18_of.far18 (g := gb522) (by first | exact HNE6_522 | exact Nat.ne_of_lt (Nat.lt_of_lt_of_le (by have := World.block_lt_of_cell? _ _ hw529_0; first | rwa [add_block] at this | exact this) GW522.out) | (rw [add_block]; exact Nat.ne_of_lt (Nat.lt_of_lt_of_le (by have := World.block_lt_of_cell? _ _ hw529_0; first | rwa [add_block] at this | exact this) GW522.out)) | (show (Addr.add _ _).block ≠ _; rw [add_block]; exact Nat.ne_of_lt (Nat.lt_of_lt_of_le (by have := World.block_lt_of_cell? _ _ hw529_0; first | rwa [add_block] at this | exact this) GW522.out)) | (dsimp only; exact Nat.ne_of_lt (Nat.lt_of_lt_of_le (by have := World.block_lt_of_cell? _ _ hw529_0; first | rwa [add_block] at this | exact this) GW522.out))) (hHeld.2.2.2.2.2.2.1)), (headgateref18_of.far18 (g := gb522) (by first | exact HNE7_522 | exact Nat.ne_of_lt (Nat.lt_of_lt_of_le (by have := World.block_lt_of_cell? _ _ hw530_0; first | rwa [add_block] at this | exact this) GW522.out) | (rw [add_block]; exact Nat.ne_of_lt (Nat.lt_of_lt_of_le (by have := World.block_lt_of_cell? _ _ hw530_0; first | rwa [add_block] at this | exact this) GW522.out)) | (show (Addr.add _ _).block ≠ _; rw [add_block]; exact Nat.ne_of_lt (Nat.lt_of_lt_of_le (by have := World.block_lt_of_cell? _ _ hw530_0; first | rwa [add_block] at this | exact this) GW522.out)) | (dsimp only; exact Nat.ne_of_lt (Nat.lt_of_lt_of_le (by have := World.block_lt_of_cell? _ _ hw530_0; first | rwa [add_block] at this | exact this) GW522.out))) (hHeld.2.2.2.2.2.2.2.1)), (headgateref18_of.far18 (g := gb522) (by first | exact HNE8_522 | exact Nat.ne_of_lt (Nat.lt_of_lt_of_le (by have := World.block_lt_of_cell? _ _ hw531_0; first | rwa [add_block] at this | exact this) GW522.out) | (rw [add_block]; exact Nat.ne_of_lt (Nat.lt_of_lt_of_le (by have := World.block_lt_of_cell? _ _ hw531_0; first | rwa [add_block] at this | exact this) GW522.out)) | (show (Addr.add _ _).block ≠ _; rw [add_block]; exact Nat.ne_of_lt (Nat.lt_of_lt_of_le (by have := World.block_lt_of_cell? _ _ hw531_0; first | rwa [add_block] at this | exact this) GW522.out)) | (dsimp only; exact Nat.ne_of_lt (Nat.lt_of_lt_of_le (by have := World.block_lt_of_cell? _ _ hw531_0; first | rwa [add_block] at this | exact this) GW522.out))) (hHeld.2.2.2.2.2.2.2.2.1)), (headgateref18_of.far18 (g := gb522) (by first | exact HNE9_522 | exact Nat.ne_of_lt (Nat.lt_of_lt_of_le (by have := World.block_lt_of_cell? _ _ hw532_0; first | rwa [add_block] at this | exact this) GW522.out) | (rw [add_block]; exact Nat.ne_of_lt (Nat.lt_of_lt_of_le (by have := World.block_lt_of_cell? _ _ hw532_0; first | rwa [add_block] at this | exact this) GW522.out)) | (show (Addr.add _ _).block ≠ _; rw [add_block]; exact Nat.ne_of_lt (Nat.lt_of_lt_of_le (by have := World.block_lt_of_cell? _ _ hw532_0; first | rwa [add_block] at this | exact this) GW522.out)) | (dsimp only; exact Nat.ne_of_lt (Nat.lt_of_lt_of_le (by have := World.block_lt_of_cell? _ _ hw532_0; first | rwa [add_block] at this | exact this) GW522.out))) (hHeld.2.2.2.2.2.2.2.2.2.1)), (headgateref18_of.far18 (g := gb522) (by first | exact HNE10_522 | exact Nat.ne_of_lt (Nat.lt_of_lt_of_le (by have := World.block_lt_of_cell? _ _ hw533_0; first | rwa [add_block] at this | exact this) GW522.out) | (rw [add_block]; exact Nat.ne_of_lt (Nat.lt_of_lt_of_le (by have := World.block_lt_of_cell? _ _ hw533_0; first | rwa [add_block] at this | exact this) GW522.out)) | (show (Addr.add _ _).block ≠ _; rw [add_block]; exact Nat.ne_of_lt (Nat.lt_of_lt_of_le (by have := World.block_lt_of_cell? _ _ hw533_0; first | rwa [add_block] at this | exact this) GW522.out)) | (dsimp only; exact Nat.ne_of_lt (Nat.lt_of_lt_of_le (by have := World.block_lt_of_cell? _ _ hw533_0; first | rwa [add_block] at this | exact this) GW522.out))) (hHeld.2.2.2.2.2.2.2.2.2.2))⟩ (fun hHeld => ?_)
            clear hK K
            refine done_ (done_of HT_.out (by kernel_rfl)) ?_
            try go_wp2
            refine bodyPost_ret (results_cell_row rfl _ _ gb522 43 #[.int .i64 a0, .int .i64 a1, .int .i64 (rd l2 0), .int .i64 (rd l2 1), .int .i64 (rd l2 2), .int .i64 (rd l2 3), .int .i64 (rd l2 4), .int .i64 (rd l2 5), .int .i64 (rd l2 6), .int .i64 (rd l2 7), .int .i64 (rd l2 8), .int .i64 (rd l2 9), .bool ((rd l2 10) == 1), .int .i64 0, .int .i64 0, .int .i64 0, .int .i64 0, .slice none 0 0] (0, 0) _ rfl (by (with_reducible repeat (first | refine blk_drewN ?_ _ | refine blk_drew ?_ | refine blk_alloc ?_ _)); exact Zz.u18_0_17 BK522.out) Try.underlying43 rfl (by kernel_rfl)) rfl ?_
            exact ⟨_, Zr.e, by first | exact Kd.R_nil _ _ _ _ _ | exact Kd.N_nil _ _ _ _ _ | exact Kd.V_nil _ _ _ _ _ | exact Kd.Q_nil _ _ _ _ _ | exact Kd.S_nil _ _ _ _ _, Zz.i HB.out⟩
           rw [if_neg c14] at H
           exact absurd H (by simp)
          rw [if_neg c13] at H
          exact absurd H (by simp)
         rw [if_neg c12] at H
         exact absurd H (by simp)
        rw [if_neg c11] at H
        exact absurd H (by simp)
       rw [if_neg c10] at H
       exact absurd H (by simp)
      rw [if_neg c9] at H
      exact absurd H (by simp)
     rw [if_neg c8] at H
     exact absurd H (by simp)
    rw [if_neg c7] at H
    exact absurd H (by simp)
   rw [if_neg c6] at H
   exact absurd H (by simp)
  rw [if_neg c5] at H
  exact absurd H (by simp)
 rw [if_neg c4] at H
 exact absurd H (by simp)

end Go.Proofs.Ytikbpjdgihheiaa.P
end
