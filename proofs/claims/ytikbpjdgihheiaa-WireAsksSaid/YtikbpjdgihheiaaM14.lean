-- Written by wip/mk.py of this repo: the kit's print program, with contracts of our own among its functions (merge.py: Px20 Px21).
import Derived.Test.YtikbpjdgihheiaaM0
import Derived.Test.YtikbpjdgihheiaaM8
import Derived.Test.YtikbpjdgihheiaaZz
import Derived.Test.YtikbpjdgihheiaaZr
section
namespace Go.Proofs.Ytikbpjdgihheiaa.P
open Go.RowKit Go.Proofs.YtikbpjdgihheiaaW.PrintWords Go.Proofs.YtikbpjdgihheiaaW.PrintLast Go.Proofs.YtikbpjdgihheiaaW.PrintMore
attribute [local go_sem] max2_int min2_int max_two min_two max_three min_three max_four min_four   -- for this text's walks alone
attribute [local go_sem ↓] Kp.LDAsk_in
attribute [local go_sem] Kp.LDAsk_run
set_option linter.unusedVariables false
set_option linter.unusedSimpArgs false

/-! ### headgateref01_Take: function 35 -/
mutual
def headgateref01_Take.j1 : Nat → ByteArray → Int → Option (Int × ByteArray × Int)
  | 0, _, _ => none
  | k + 1, x0, x5 => if x5 = (x0.size : Int) then (headgateref01_Take.j2 k x0 x5 true) else (headgateref01_Take.j2 k x0 x5 (x5 == 10))
def headgateref01_Take.j2 : Nat → ByteArray → Int → Bool → Option (Int × ByteArray × Int)
  | 0, _, _, _ => none
  | k + 1, x0, x5, x32 => if x32 = true then (some (0, (⟨#[]⟩ : ByteArray), 2)) else (headgateref01_Take.l1 k x0 x5 0 x5)
def headgateref01_Take.l1 : Nat → ByteArray → Int → Int → Int → Option (Int × ByteArray × Int)
  | 0, _, _, _, _ => none
  | k + 1, x0, x5, x6, x7 => if x7 ≥ 0 then (if 0 ≤ x7 then (if x7 < (x0.size : Int) then (headgateref01_Take.l1 k x0 x5 (IntKind.u64.wrap ((IntKind.u64.wrap (x6 * 128)) + (Int.tmod (IntKind.u64.wrap (bt x0 x7)) 128))) (wrap64 (x7 - 1))) else (none)) else (none)) else (if (Int.tmod x6 2) = 1 then ((headgateref01_Put.f k (wrap64 ((wrap64 (-(wrap64 (IntKind.u64.wrap (Int.tdiv x6 2))))) - 1))).bind fun t272 => (if 0 ≤ (wrap64 (x5 + 1)) then (if (wrap64 (x5 + 1)) ≤ (x0.size : Int) then (if t272.toList = (x0.extract 0 ((wrap64 (x5 + 1)) : Int).toNat).toList then (some (wrap64 ((wrap64 (-(wrap64 (IntKind.u64.wrap (Int.tdiv x6 2))))) - 1), x0.extract ((wrap64 (x5 + 1)) : Int).toNat x0.size, 0)) else (some (0, (⟨#[]⟩ : ByteArray), 2))) else (none)) else (none))) else ((headgateref01_Put.f k (wrap64 (IntKind.u64.wrap (Int.tdiv x6 2)))).bind fun t273 => (if 0 ≤ (wrap64 (x5 + 1)) then (if (wrap64 (x5 + 1)) ≤ (x0.size : Int) then (if t273.toList = (x0.extract 0 ((wrap64 (x5 + 1)) : Int).toNat).toList then (some (wrap64 (IntKind.u64.wrap (Int.tdiv x6 2)), x0.extract ((wrap64 (x5 + 1)) : Int).toNat x0.size, 0)) else (some (0, (⟨#[]⟩ : ByteArray), 2))) else (none)) else (none))))
def headgateref01_Take.l0 : Nat → ByteArray → Int → Option (Int × ByteArray × Int)
  | 0, _, _ => none
  | k + 1, x0, x5 => if x5 < (x0.size : Int) then (if x5 < 10 then (if 0 ≤ x5 then (if (bt x0 x5) > 127 then (headgateref01_Take.l0 k x0 (wrap64 (x5 + 1))) else (headgateref01_Take.j1 k x0 x5)) else (none)) else (headgateref01_Take.j1 k x0 x5)) else (headgateref01_Take.j1 k x0 x5)
end
def headgateref01_Take.f (k : Nat) (a0 : ByteArray) : Option (Int × ByteArray × Int) := headgateref01_Take.l0 k a0 0
def headgateref01_Take.T16 : Bool × List (List Nat × List Nat) := (true, [([], []), ([], []), ([], []), ([2], [2]), ([1, 3], [1, 3]), ([0, 0], [0]), ([4, 5, 0, 1, 2, 3, 4, 5], [4]), ([6, 0, 1, 2, 3, 4, 5, 6], [])])
def headgateref01_Take.B16 : List Nat := [0, 0, 0, 4, 14, 1, 63, 127]
theorem headgateref01_Take.tab16 : rtab .any (opsOf Try.f35 16) = headgateref01_Take.T16 := by kernel_rfl
theorem headgateref01_Take.bits16 : waitsOk headgateref01_Take.T16.2 headgateref01_Take.B16 = true := by kernel_rfl
set_option maxHeartbeats 8000000 in
set_option maxRecDepth 100000 in
theorem headgateref01_Take.calls (k : Nat) (a0 : ByteArray) (r1 : Int) (r2 : ByteArray) (r3 : Int) (w : World) (h : headgateref01_Take.f k a0 = some (r1, r2, r3)) :
    Calls Try.prog 35 #[.string a0] w fun e w' => e = .returned (.tuple #[.int .i64 r1, .string r2, .int .i64 r3]) ∧ Below w.heap.size w w' := by
 have HB := Aside0.mk (Below.refl w.heap.size w)
 have H : (headgateref01_Take.l0 k a0 0) = some (r1, r2, r3) := h
 clear h
 have HC2 := Aside0.mk H
 clear H
 go_enter Try.func35, Try.ntmps35
 go_upto_block 0 with (fail)
 go_cut [5] (fun v5 wc => ∃ (kq : Nat) (x5_1 : Int), v5 = .int .i64 x5_1 ∧ Aside0 (headgateref01_Take.j1 kq a0 x5_1 = some (r1, r2, r3)) ∧ Aside0 (kq ≤ k) ∧ Aside0 (Below w.heap.size w wc))
 case first =>
  have H := HC2.out
  clear HC2
  have H' := Aside0.mk H
  clear H
  go_wp2
  go_loopg [5] k (fun kq v5 w' => ∃ (x5_1 : Int), v5 = .int .i64 x5_1 ∧ Aside0 (headgateref01_Take.l0 kq a0 x5_1 = some (r1, r2, r3)) ∧ Aside0 (kq ≤ k) ∧ Aside0 (Below w.heap.size w w'))
  case atStart => exact ⟨(0), Zz.q, H', ⟨Nat.le_refl _⟩, ⟨Zz.i HB.out⟩⟩
  case round =>
   clear H'
   (try clear p2)
   obtain ⟨x5_1, rfl, HA, HK1, HB⟩ := hrel
   cases gk with
   | zero => exact absurd HA.out (by simp [headgateref01_Take.l0])
   | succ k1 =>
    have H := HA.out
    clear HA
    simp only [headgateref01_Take.l0] at H
    by_cases c3 : x5_1 < (a0.size : Int)
    ·rw [if_pos c3] at H
     have c3b0 : decide (x5_1 < (a0.size : Int)) = true := decide_eq_true c3
     clear c3
     (first | rw [c3b0] | rw [c3b9] | (simp only [i64_w, i32_w]; rw [c3b0]) | skip)
     by_cases c4 : x5_1 < 10
     ·rw [if_pos c4] at H
      have c4b0 : decide (x5_1 < 10) = true := decide_eq_true c4
      clear c4
      by_cases c5 : 0 ≤ x5_1
      ·rw [if_pos c5] at H
       have c5b0 : decide (0 ≤ x5_1) = true := decide_eq_true c5
       clear c5
       by_cases c7 : (bt a0 x5_1) > 127
       ·rw [if_pos c7] at H
        have c7b0 : decide (127 < (bt a0 x5_1)) = true := decide_eq_true c7
        clear c7
        have H' := Aside0.mk H
        clear H
        have p6 : 0 ≤ (x5_1 : Int) := of_decide_eq_true (by first | (with_reducible assumption) | assumption)
        have q6 : x5_1 < (a0.size : Int) := of_decide_eq_true (by first | (with_reducible assumption) | assumption)
        have hx6 := bt_at a0 x5_1
        replace p6 := eq_true p6
        replace q6 := eq_true q6
        go_wp2
        go_roundg k1
        case measure => have := HK1.out; omega
        case rel => exact ⟨(wrap64 (x5_1 + 1)), Zz.q, H', ⟨by have := HK1.out; omega⟩, ⟨Zz.i HB.out⟩⟩
       rw [if_neg c7] at H
       have c7b0 : decide (127 < (bt a0 x5_1)) = false := decide_eq_false c7
       clear c7
       have H' := Aside0.mk H
       clear H
       have p6 : 0 ≤ (x5_1 : Int) := of_decide_eq_true (by first | (with_reducible assumption) | assumption)
       have q6 : x5_1 < (a0.size : Int) := of_decide_eq_true (by first | (with_reducible assumption) | assumption)
       have hx6 := bt_at a0 x5_1
       replace p6 := eq_true p6
       replace q6 := eq_true q6
       go_wp2
       go_meet
       case rel => exact ⟨_, (x5_1), Zz.q, H', ⟨by have := HK1.out; first | omega | exact Nat.le_refl _⟩, ⟨Zz.i HB.out⟩⟩
      rw [if_neg c5] at H
      exact absurd H (by simp)
     rw [if_neg c4] at H
     have c4b0 : decide (x5_1 < 10) = false := decide_eq_false c4
     clear c4
     have H' := Aside0.mk H
     clear H
     go_wp2
     go_meet
     case rel => exact ⟨_, (x5_1), Zz.q, H', ⟨by have := HK1.out; first | omega | exact Nat.le_refl _⟩, ⟨Zz.i HB.out⟩⟩
    rw [if_neg c3] at H
    have c3b0 : decide (x5_1 < (a0.size : Int)) = false := decide_eq_false c3
    clear c3
    (first | rw [c3b0] | rw [c3b9] | (simp only [i64_w, i32_w]; rw [c3b0]) | skip)
    have H' := Aside0.mk H
    clear H
    go_wp2
    go_meet
    case rel => exact ⟨_, (x5_1), Zz.q, H', ⟨by have := HK1.out; first | omega | exact Nat.le_refl _⟩, ⟨Zz.i HB.out⟩⟩
 clear HC2
 (try clear p2);(try clear c3);(try clear c3b0);(try clear c4);(try clear c4b0);(try clear c5);(try clear c5b0);(try clear p6);(try clear q6);(try clear hx6);(try clear c7);(try clear c7b0)
 obtain ⟨kq, x5_1, rfl, HA, HJ1, HB⟩ := hcut
 cases kq with
 | zero => exact absurd HA.out (by simp [headgateref01_Take.j1])
 | succ kj1 =>
  have H := HA.out
  clear HA
  simp only [headgateref01_Take.j1] at H
  have HC8 := Aside0.mk H
  clear H
  go_upto_region 4 with (fail)
  go_cut [32] (fun v32 wc => ∃ (kq : Nat) (x32_7 : Bool), v32 = .bool x32_7 ∧ Aside0 (headgateref01_Take.j2 kq a0 x5_1 x32_7 = some (r1, r2, r3)) ∧ Aside0 (kq ≤ kj1) ∧ Aside0 (Below w.heap.size w wc))
  case first =>
   have H := HC8.out
   clear HC8
   by_cases c9 : x5_1 = (a0.size : Int)
   ·rw [if_pos c9] at H
    obtain ⟨c9b0, c9b1⟩ := Zr.y c9
    clear c9
    (first | rw [c9b0] | rw [c9b9] | (simp only [i64_w, i32_w]; rw [c9b0]) | skip)
    have H' := Aside0.mk H
    clear H
    go_wp2
    go_meet
    case rel => exact ⟨_, (true), Zz.q, H', ⟨by have := HJ1.out; first | omega | exact Nat.le_refl _⟩, ⟨Zz.i HB.out⟩⟩
   rw [if_neg c9] at H
   obtain ⟨c9b0, c9b1⟩ := Zr.n c9
   (first | rw [c9b0] | rw [c9b9] | (simp only [i64_w, i32_w]; rw [c9b0]) | skip)
   have H' := Aside0.mk H
   clear H
   go_wp2
   go_meet
   case rel => exact ⟨_, ((x5_1 == 10)), Zz.q, H', ⟨by have := HJ1.out; first | omega | exact Nat.le_refl _⟩, ⟨Zz.i HB.out⟩⟩
  clear HC8
  (try clear p2);(try clear c3);(try clear c3b0);(try clear c4);(try clear c4b0);(try clear c5);(try clear c5b0);(try clear p6);(try clear q6);(try clear hx6);(try clear c7);(try clear c7b0);(try clear c9);(try clear c9b0);(try clear c9b1)
  obtain ⟨kq, x32_7, rfl, HA, HJ7, HB⟩ := hcut
  cases kq with
  | zero => exact absurd HA.out (by simp [headgateref01_Take.j2])
  | succ kj7 =>
   have H := HA.out
   clear HA
   simp only [headgateref01_Take.j2] at H
   by_cases c10 : x32_7 = true
   ·subst c10
    rw [if_pos rfl] at H
    simp only [Option.some.injEq, Prod.mk.injEq] at H
    obtain ⟨rfl, rfl, rfl⟩ := H
    go_wp2
    go_ret3
    exact ⟨Zr.e, Zz.i HB.out⟩
   replace c10 := Bool.eq_false_iff.mpr c10
   subst c10
   rw [if_neg Bool.false_ne_true] at H
   have H' := Aside0.mk H
   clear H
   go_wp2
   go_loopg [6, 7] kj7 (fun kq v6 v7 w' => ∃ (x6_3 : Int) (x7_3 : Int), v6 = .int .u64 x6_3 ∧ v7 = .int .i64 x7_3 ∧ Aside0 (headgateref01_Take.l1 kq a0 x5_1 x6_3 x7_3 = some (r1, r2, r3)) ∧ Aside0 (kq ≤ kj7) ∧ Aside0 (Below w.heap.size w w'))
   case atStart => exact ⟨(0), (x5_1), Zz.q, Zz.q, H', ⟨Nat.le_refl _⟩, ⟨Zz.i HB.out⟩⟩
   case round =>
    clear H'
    (try clear c1);(try clear p2);(try clear c3);(try clear c3b0);(try clear c4);(try clear c4b0);(try clear c5);(try clear c5b0);(try clear p6);(try clear q6);(try clear hx6);(try clear c7);(try clear c7b0);(try clear c9);(try clear c9b0);(try clear c9b1);(try clear c10)
    obtain ⟨x6_3, x7_3, rfl, rfl, HA, HK3, HB⟩ := hrel
    cases gk with
    | zero => exact absurd HA.out (by simp [headgateref01_Take.l1])
    | succ k3 =>
     have H := HA.out
     clear HA
     simp only [headgateref01_Take.l1] at H
     by_cases c11 : x7_3 ≥ 0
     ·rw [if_pos c11] at H
      have c11b0 : decide (0 ≤ x7_3) = true := decide_eq_true c11
      clear c11
      by_cases c12 : 0 ≤ x7_3
      ·rw [if_pos c12] at H
       have c12b0 : decide (0 ≤ x7_3) = true := decide_eq_true c12
       clear c12
       by_cases c13 : x7_3 < (a0.size : Int)
       ·rw [if_pos c13] at H
        have c13b0 : decide (x7_3 < (a0.size : Int)) = true := decide_eq_true c13
        clear c13
        have H' := Aside0.mk H
        clear H
        have p14 : 0 ≤ (x7_3 : Int) := of_decide_eq_true (by first | (with_reducible assumption) | assumption)
        have q14 : x7_3 < (a0.size : Int) := of_decide_eq_true (by first | (with_reducible assumption) | assumption)
        have hx14 := bt_at a0 x7_3
        replace p14 := eq_true p14
        replace q14 := eq_true q14
        go_wp2
        go_roundg k3
        case measure => have := HJ1.out; have := HJ7.out; have := HK3.out; omega
        case rel => exact ⟨(IntKind.u64.wrap ((IntKind.u64.wrap (x6_3 * 128)) + (Int.tmod (IntKind.u64.wrap (bt a0 x7_3)) 128))), (wrap64 (x7_3 - 1)), Zz.q, Zz.q, H', ⟨by have := HJ1.out; have := HJ7.out; have := HK3.out; omega⟩, ⟨Zz.i HB.out⟩⟩
       rw [if_neg c13] at H
       exact absurd H (by simp)
      rw [if_neg c12] at H
      exact absurd H (by simp)
     rw [if_neg c11] at H
     have c11b0 : decide (0 ≤ x7_3) = false := decide_eq_false c11
     clear c11
     by_cases c15 : (Int.tmod x6_3 2) = 1
     ·rw [if_pos c15] at H
      obtain ⟨c15b0, c15b1⟩ := Zr.y c15
      clear c15
      replace H := Option.bind_eq_some_iff.mp H
      obtain ⟨t272, A160, H⟩ := H
      try dsimp only at H
      have A16 := Aside0.mk A160
      clear A160
      obtain ⟨ji17, hji17⟩ : ∃ j_ : Int, (wrap64 (x5_1 + 1)) = j_ := ⟨_, rfl⟩
      replace H : (if 0 ≤ (ji17) then (if (ji17) ≤ (a0.size : Int) then (if t272.toList = (a0.extract 0 ((ji17) : Int).toNat).toList then (some (wrap64 ((wrap64 (-(wrap64 (IntKind.u64.wrap (Int.tdiv x6_3 2))))) - 1), a0.extract ((ji17) : Int).toNat a0.size, 0)) else (some (0, (⟨#[]⟩ : ByteArray), 2))) else (none)) else (none)) = some (r1, r2, r3) := by first | (rw [hji17] at H; exact H) | (simp only [hji17] at H ⊢; exact H)
      (try rw [hji17] at A16)
      have hji17w : (IntKind.i64.wrap (x5_1 + 1)) = ji17 := (i64_w _).trans hji17
      by_cases c18 : 0 ≤ (ji17)
      ·rw [if_pos c18] at H
       have c18b0 := eq_true c18
       have c18b1 : decide (0 ≤ (ji17)) = true := decide_eq_true c18
       clear c18
       by_cases c19 : (ji17) ≤ (a0.size : Int)
       ·rw [if_pos c19] at H
        have c19b0 := eq_true c19
        have c19b1 : decide ((ji17) ≤ (a0.size : Int)) = true := decide_eq_true c19
        clear c19
        by_cases c20 : t272.toList = (a0.extract 0 ((ji17) : Int).toNat).toList
        ·rw [if_pos c20] at H
         obtain ⟨c20b0, c20b1⟩ := Zr.y c20
         clear c20
         have c21b0 := eq_true (of_decide_eq_true (by first | (with_reducible assumption) | assumption) : 0 ≤ (ji17))
         have c22b0 := eq_true (of_decide_eq_true (by first | (with_reducible assumption) | assumption) : (ji17) ≤ (a0.size : Int))
         simp only [Option.some.injEq, Prod.mk.injEq] at H
         obtain ⟨rfl, rfl, rfl⟩ := H
         try go_wp2
         have n0_ := Aside0.mk (below_drew1 HB.out)
         clear HB
         have HB := n0_
         clear n0_
         refine start_ (n := 7) (S := fun w' => True) (ds := []) #[false, false, false, false, false, false, false] (by kernel_rfl) rfl rfl trivial (fun hHeld => ?_)
         generalize wr.drew = w23 at HB hHeld ⊢
         refine Zr.pk 0 55 ?_
         refine Zr.pk 2 57 ?_
         refine Zr.pk 3 58 ?_
         refine Zr.pk 4 59 ?_
         refine Zr.pk 5 60 ?_
         refine one_ (i := 1) (N := some 56) #[true, true, true, true, true, true, false] rfl rfl (by kernel_rfl) (by decide) (fun K hK => ?_)
         refine goes_ Try.func29 (by kernel_rfl) rfl #[.int .i64 (wrap64 ((wrap64 (-(wrap64 (IntKind.u64.wrap (Int.tdiv x6_3 2))))) - 1))] (by rfl) rfl rfl (by (try simp only [List.map_toArray, List.map_cons, List.map_nil]); first | done | rfl | (simp only [List.length_drop, List.length_take]; rfl)) ?_
         with_reducible refine (headgateref01_Put.calls k3 (wrap64 ((wrap64 (-(wrap64 (IntKind.u64.wrap (Int.tdiv x6_3 2))))) - 1)) t272 _ A16.out).mono ?_
         rintro e w24 ⟨rfl, hb⟩
         refine ⟨_, rfl, ?_⟩
         have n0_ := Aside0.mk (below_step (Zz.i HB.out) hb)
         clear HB
         have HB := n0_
         clear n0_
         (try clear hb)
         (try clear hb2)
         (try clear hk)
         (try clear hi)
         refine hK.out _ _ trivial (fun hHeld => ?_)
         clear hK K
         refine norm_ (a' := ?_) ?_ ?_
         rotate_left
         ·show Act.put _ (some 56) _ = _
          simp only [Act.put, List.setIfInBounds_toArray, List.set_cons_zero, List.set_cons_succ, i64_w, i32_w]
          rfl
         refine Zr.pk 6 61 ?_
         refine done_ (by kernel_rfl) ?_
         try go_wp2
         have n0_ := Aside0.mk (below_drew1 HB.out)
         clear HB
         have HB := n0_
         clear n0_
         refine start_ (n := 8) (S := fun w' => True) (ds := []) #[false, false, false, false, false, false, false, false] (by kernel_rfl) rfl rfl trivial (fun hHeld => ?_); refine with_tabW headgateref01_Take.tab16 headgateref01_Take.bits16 (fun HT_ HW_ => ?_)
         generalize w24.drew = w25 at HB hHeld ⊢
         refine Zr.pu 0 62 HT_.out ?_
         refine Zr.pu 1 63 HT_.out ?_
         refine Zr.pu 2 64 HT_.out ?_
         refine Zr.pu 3 65 HT_.out ?_
         refine Zr.pu 4 66 HT_.out ?_
         refine Zr.pu 5 2 HT_.out ?_
         refine Zr.pu 6 3 HT_.out ?_
         refine Zr.pu 7 4 HT_.out ?_
         refine done_ (done_of HT_.out (by kernel_rfl)) ?_
         try go_wp2
         go_ret3
         exact ⟨by first | rfl | (simp [errW_none, errW_some] <;> rfl) | (simp only [← hji17]; first | rfl | (simp [errW_none, errW_some] <;> rfl)) | (simp [*, errW_none, errW_some] <;> rfl), Zz.i HB.out⟩
        rw [if_neg c20] at H
        obtain ⟨c20b0, c20b1⟩ := Zr.n c20
        simp only [Option.some.injEq, Prod.mk.injEq] at H
        obtain ⟨rfl, rfl, rfl⟩ := H
        try go_wp2
        have n0_ := Aside0.mk (below_drew1 HB.out)
        clear HB
        have HB := n0_
        clear n0_
        refine start_ (n := 7) (S := fun w' => True) (ds := []) #[false, false, false, false, false, false, false] (by kernel_rfl) rfl rfl trivial (fun hHeld => ?_)
        generalize wr.drew = w26 at HB hHeld ⊢
        refine Zr.pk 0 55 ?_
        refine Zr.pk 2 57 ?_
        refine Zr.pk 3 58 ?_
        refine Zr.pk 4 59 ?_
        refine Zr.pk 5 60 ?_
        refine one_ (i := 1) (N := some 56) #[true, true, true, true, true, true, false] rfl rfl (by kernel_rfl) (by decide) (fun K hK => ?_)
        refine goes_ Try.func29 (by kernel_rfl) rfl #[.int .i64 (wrap64 ((wrap64 (-(wrap64 (IntKind.u64.wrap (Int.tdiv x6_3 2))))) - 1))] (by rfl) rfl rfl (by (try simp only [List.map_toArray, List.map_cons, List.map_nil]); first | done | rfl | (simp only [List.length_drop, List.length_take]; rfl)) ?_
        with_reducible refine (headgateref01_Put.calls k3 (wrap64 ((wrap64 (-(wrap64 (IntKind.u64.wrap (Int.tdiv x6_3 2))))) - 1)) t272 _ A16.out).mono ?_
        rintro e w27 ⟨rfl, hb⟩
        refine ⟨_, rfl, ?_⟩
        have n0_ := Aside0.mk (below_step (Zz.i HB.out) hb)
        clear HB
        have HB := n0_
        clear n0_
        (try clear hb)
        (try clear hb2)
        (try clear hk)
        (try clear hi)
        refine hK.out _ _ trivial (fun hHeld => ?_)
        clear hK K
        refine norm_ (a' := ?_) ?_ ?_
        rotate_left
        ·show Act.put _ (some 56) _ = _
         simp only [Act.put, List.setIfInBounds_toArray, List.set_cons_zero, List.set_cons_succ, i64_w, i32_w]
         rfl
        refine Zr.pk 6 61 ?_
        refine done_ (by kernel_rfl) ?_
        try go_wp2
        go_ret3
        exact ⟨by first | rfl | (simp [errW_none, errW_some] <;> rfl) | (simp only [← hji17]; first | rfl | (simp [errW_none, errW_some] <;> rfl)) | (simp [*, errW_none, errW_some] <;> rfl), Zz.i HB.out⟩
       rw [if_neg c19] at H
       exact absurd H (by simp)
      rw [if_neg c18] at H
      exact absurd H (by simp)
     rw [if_neg c15] at H
     obtain ⟨c15b0, c15b1⟩ := Zr.n c15
     replace H := Option.bind_eq_some_iff.mp H
     obtain ⟨t273, A280, H⟩ := H
     try dsimp only at H
     have A28 := Aside0.mk A280
     clear A280
     obtain ⟨ji29, hji29⟩ : ∃ j_ : Int, (wrap64 (x5_1 + 1)) = j_ := ⟨_, rfl⟩
     replace H : (if 0 ≤ (ji29) then (if (ji29) ≤ (a0.size : Int) then (if t273.toList = (a0.extract 0 ((ji29) : Int).toNat).toList then (some (wrap64 (IntKind.u64.wrap (Int.tdiv x6_3 2)), a0.extract ((ji29) : Int).toNat a0.size, 0)) else (some (0, (⟨#[]⟩ : ByteArray), 2))) else (none)) else (none)) = some (r1, r2, r3) := by first | (rw [hji29] at H; exact H) | (simp only [hji29] at H ⊢; exact H)
     (try rw [hji29] at A28)
     have hji29w : (IntKind.i64.wrap (x5_1 + 1)) = ji29 := (i64_w _).trans hji29
     by_cases c30 : 0 ≤ (ji29)
     ·rw [if_pos c30] at H
      have c30b0 := eq_true c30
      have c30b1 : decide (0 ≤ (ji29)) = true := decide_eq_true c30
      clear c30
      by_cases c31 : (ji29) ≤ (a0.size : Int)
      ·rw [if_pos c31] at H
       have c31b0 := eq_true c31
       have c31b1 : decide ((ji29) ≤ (a0.size : Int)) = true := decide_eq_true c31
       clear c31
       by_cases c32 : t273.toList = (a0.extract 0 ((ji29) : Int).toNat).toList
       ·rw [if_pos c32] at H
        obtain ⟨c32b0, c32b1⟩ := Zr.y c32
        clear c32
        have c33b0 := eq_true (of_decide_eq_true (by first | (with_reducible assumption) | assumption) : 0 ≤ (ji29))
        have c34b0 := eq_true (of_decide_eq_true (by first | (with_reducible assumption) | assumption) : (ji29) ≤ (a0.size : Int))
        simp only [Option.some.injEq, Prod.mk.injEq] at H
        obtain ⟨rfl, rfl, rfl⟩ := H
        try go_wp2
        have n0_ := Aside0.mk (below_drew1 HB.out)
        clear HB
        have HB := n0_
        clear n0_
        refine start_ (n := 7) (S := fun w' => True) (ds := []) #[false, false, false, false, false, false, false] (by kernel_rfl) rfl rfl trivial (fun hHeld => ?_)
        generalize wr.drew = w35 at HB hHeld ⊢
        refine Zr.pk 0 55 ?_
        refine Zr.pk 2 57 ?_
        refine Zr.pk 3 58 ?_
        refine Zr.pk 4 59 ?_
        refine Zr.pk 5 60 ?_
        refine one_ (i := 1) (N := some 56) #[true, true, true, true, true, true, false] rfl rfl (by kernel_rfl) (by decide) (fun K hK => ?_)
        refine goes_ Try.func29 (by kernel_rfl) rfl #[.int .i64 (wrap64 (IntKind.u64.wrap (Int.tdiv x6_3 2)))] (by rfl) rfl rfl (by (try simp only [List.map_toArray, List.map_cons, List.map_nil]); first | done | rfl | (simp only [List.length_drop, List.length_take]; rfl)) ?_
        with_reducible refine (headgateref01_Put.calls k3 (wrap64 (IntKind.u64.wrap (Int.tdiv x6_3 2))) t273 _ A28.out).mono ?_
        rintro e w36 ⟨rfl, hb⟩
        refine ⟨_, rfl, ?_⟩
        have n0_ := Aside0.mk (below_step (Zz.i HB.out) hb)
        clear HB
        have HB := n0_
        clear n0_
        (try clear hb)
        (try clear hb2)
        (try clear hk)
        (try clear hi)
        refine hK.out _ _ trivial (fun hHeld => ?_)
        clear hK K
        refine norm_ (a' := ?_) ?_ ?_
        rotate_left
        ·show Act.put _ (some 56) _ = _
         simp only [Act.put, List.setIfInBounds_toArray, List.set_cons_zero, List.set_cons_succ, i64_w, i32_w]
         rfl
        refine Zr.pk 6 61 ?_
        refine done_ (by kernel_rfl) ?_
        try go_wp2
        have n0_ := Aside0.mk (below_drew1 HB.out)
        clear HB
        have HB := n0_
        clear n0_
        refine start_ (n := 8) (S := fun w' => True) (ds := []) #[false, false, false, false, false, false, false, false] (by kernel_rfl) rfl rfl trivial (fun hHeld => ?_); refine with_tabW headgateref01_Take.tab16 headgateref01_Take.bits16 (fun HT_ HW_ => ?_)
        generalize w36.drew = w37 at HB hHeld ⊢
        refine Zr.pu 0 62 HT_.out ?_
        refine Zr.pu 1 63 HT_.out ?_
        refine Zr.pu 2 64 HT_.out ?_
        refine Zr.pu 3 65 HT_.out ?_
        refine Zr.pu 4 66 HT_.out ?_
        refine Zr.pu 5 2 HT_.out ?_
        refine Zr.pu 6 3 HT_.out ?_
        refine Zr.pu 7 4 HT_.out ?_
        refine done_ (done_of HT_.out (by kernel_rfl)) ?_
        try go_wp2
        go_ret3
        exact ⟨by first | rfl | (simp [errW_none, errW_some] <;> rfl) | (simp only [← hji29]; first | rfl | (simp [errW_none, errW_some] <;> rfl)) | (simp [*, errW_none, errW_some] <;> rfl), Zz.i HB.out⟩
       rw [if_neg c32] at H
       obtain ⟨c32b0, c32b1⟩ := Zr.n c32
       simp only [Option.some.injEq, Prod.mk.injEq] at H
       obtain ⟨rfl, rfl, rfl⟩ := H
       try go_wp2
       have n0_ := Aside0.mk (below_drew1 HB.out)
       clear HB
       have HB := n0_
       clear n0_
       refine start_ (n := 7) (S := fun w' => True) (ds := []) #[false, false, false, false, false, false, false] (by kernel_rfl) rfl rfl trivial (fun hHeld => ?_)
       generalize wr.drew = w38 at HB hHeld ⊢
       refine Zr.pk 0 55 ?_
       refine Zr.pk 2 57 ?_
       refine Zr.pk 3 58 ?_
       refine Zr.pk 4 59 ?_
       refine Zr.pk 5 60 ?_
       refine one_ (i := 1) (N := some 56) #[true, true, true, true, true, true, false] rfl rfl (by kernel_rfl) (by decide) (fun K hK => ?_)
       refine goes_ Try.func29 (by kernel_rfl) rfl #[.int .i64 (wrap64 (IntKind.u64.wrap (Int.tdiv x6_3 2)))] (by rfl) rfl rfl (by (try simp only [List.map_toArray, List.map_cons, List.map_nil]); first | done | rfl | (simp only [List.length_drop, List.length_take]; rfl)) ?_
       with_reducible refine (headgateref01_Put.calls k3 (wrap64 (IntKind.u64.wrap (Int.tdiv x6_3 2))) t273 _ A28.out).mono ?_
       rintro e w39 ⟨rfl, hb⟩
       refine ⟨_, rfl, ?_⟩
       have n0_ := Aside0.mk (below_step (Zz.i HB.out) hb)
       clear HB
       have HB := n0_
       clear n0_
       (try clear hb)
       (try clear hb2)
       (try clear hk)
       (try clear hi)
       refine hK.out _ _ trivial (fun hHeld => ?_)
       clear hK K
       refine norm_ (a' := ?_) ?_ ?_
       rotate_left
       ·show Act.put _ (some 56) _ = _
        simp only [Act.put, List.setIfInBounds_toArray, List.set_cons_zero, List.set_cons_succ, i64_w, i32_w]
        rfl
       refine Zr.pk 6 61 ?_
       refine done_ (by kernel_rfl) ?_
       try go_wp2
       go_ret3
       exact ⟨by first | rfl | (simp [errW_none, errW_some] <;> rfl) | (simp only [← hji29]; first | rfl | (simp [errW_none, errW_some] <;> rfl)) | (simp [*, errW_none, errW_some] <;> rfl), Zz.i HB.out⟩
      rw [if_neg c31] at H
      exact absurd H (by simp)
     rw [if_neg c30] at H
     exact absurd H (by simp)

end Go.Proofs.Ytikbpjdgihheiaa.P
end
section
namespace Go.Proofs.Ytikbpjdgihheiaa.P
open Go.RowKit Go.Proofs.YtikbpjdgihheiaaW.PrintWords Go.Proofs.YtikbpjdgihheiaaW.PrintLast Go.Proofs.YtikbpjdgihheiaaW.PrintMore
attribute [local go_sem] max2_int min2_int max_two min_two max_three min_three max_four min_four   -- for this text's walks alone
attribute [local go_sem ↓] Kp.LDAsk_in
attribute [local go_sem] Kp.LDAsk_run
set_option linter.unusedVariables false
set_option linter.unusedSimpArgs false

/-! ### headgateref01_TakeAll: function 34 -/
mutual
def headgateref01_TakeAll.j0 : Nat → ByteArray → Int → Bool → Option (List Int × ByteArray × Int)
  | 0, _, _, _ => none
  | k + 1, x0, x1, x17 => if x17 = true then (some (([] : List Int), (⟨#[]⟩ : ByteArray), 1)) else (headgateref01_TakeAll.l0 k x0 x1 ([] : List Int) 0)
def headgateref01_TakeAll.l0 : Nat → ByteArray → Int → List Int → Int → Option (List Int × ByteArray × Int)
  | 0, _, _, _, _ => none
  | k + 1, x0, x1, x7, x8 => if x8 < x1 then ((headgateref01_Take.f k x0).bind fun bt274 => (if bt274.2.2 = 0 then (if x7.length < 17592186044416 then (headgateref01_TakeAll.l0 k bt274.2.1 x1 (x7 ++ [bt274.1]) (wrap64 (x8 + 1))) else (none)) else (some (([] : List Int), (⟨#[]⟩ : ByteArray), bt274.2.2)))) else (some (x7, x0, 0))
end
def headgateref01_TakeAll.f (k : Nat) (a0 : ByteArray) (a1 : Int) : Option (List Int × ByteArray × Int) := if a1 < 0 then (headgateref01_TakeAll.j0 k a0 a1 true) else (headgateref01_TakeAll.j0 k a0 a1 (decide (a1 > 64)))
set_option maxHeartbeats 8000000 in
set_option maxRecDepth 100000 in
theorem headgateref01_TakeAll.calls (k : Nat) (a0 : ByteArray) (a1 : Int) (r1 : List Int) (r2 : ByteArray) (r3 : Int) (w : World) (h : headgateref01_TakeAll.f k a0 a1 = some (r1, r2, r3)) :
    Calls Try.prog 34 #[.string a0, .int .i64 a1] w fun e w' => ∃ v0_ : Value, e = .returned (.tuple #[v0_, .string r2, .int .i64 r3]) ∧ Kd.R (Kd.int .i64) 3 w' w.heap.size (fun _ => True) v0_ r1 ∧ Below w.heap.size w w' := by
 have HB := Aside0.mk (Below.refl w.heap.size w)
 have H : (if a1 < 0 then (headgateref01_TakeAll.j0 k a0 a1 true) else (headgateref01_TakeAll.j0 k a0 a1 (decide (a1 > 64)))) = some (r1, r2, r3) := h
 clear h
 have HC3 := Aside0.mk H
 clear H
 go_enter Try.func34, Try.ntmps34
 go_upto_region 1 with (fail)
 go_cut [17] (fun v17 wc => ∃ (kq : Nat) (x17_2 : Bool), v17 = .bool x17_2 ∧ Aside0 (headgateref01_TakeAll.j0 kq a0 a1 x17_2 = some (r1, r2, r3)) ∧ Aside0 (kq ≤ k) ∧ Aside0 (Below w.heap.size w wc))
 case first =>
  have H := HC3.out
  clear HC3
  by_cases c4 : a1 < 0
  ·rw [if_pos c4] at H
   have c4b0 : decide (a1 < 0) = true := decide_eq_true c4
   clear c4
   (first | rw [c4b0] | rw [c4b9] | (simp only [i64_w, i32_w]; rw [c4b0]) | skip)
   have H' := Aside0.mk H
   clear H
   go_wp2
   go_meet
   case rel => exact ⟨_, (true), Zz.q, H', ⟨by first | omega | exact Nat.le_refl _⟩, ⟨Zz.i HB.out⟩⟩
  rw [if_neg c4] at H
  have c4b0 : decide (a1 < 0) = false := decide_eq_false c4
  clear c4
  (first | rw [c4b0] | rw [c4b9] | (simp only [i64_w, i32_w]; rw [c4b0]) | skip)
  have H' := Aside0.mk H
  clear H
  go_wp2
  go_meet
  case rel => exact ⟨_, (decide (a1 > 64)), Zz.q, H', ⟨by first | omega | exact Nat.le_refl _⟩, ⟨Zz.i HB.out⟩⟩
 clear HC3
 (try clear p2);(try clear c3);(try clear c4);(try clear c4b0)
 obtain ⟨kq, x17_2, rfl, HA, HJ2, HB⟩ := hcut
 cases kq with
 | zero => exact absurd HA.out (by simp [headgateref01_TakeAll.j0])
 | succ kj2 =>
  have H := HA.out
  clear HA
  simp only [headgateref01_TakeAll.j0] at H
  by_cases c5 : x17_2 = true
  ·subst c5
   rw [if_pos rfl] at H
   simp only [Option.some.injEq, Prod.mk.injEq] at H
   obtain ⟨rfl, rfl, rfl⟩ := H
   go_wp2
   go_ret3
   exact ⟨_, Zr.e, by first | exact Kd.R_nil _ _ _ _ _ | exact Kd.N_nil _ _ _ _ _ | exact Kd.V_nil _ _ _ _ _ | exact Kd.Q_nil _ _ _ _ _ | exact Kd.S_nil _ _ _ _ _, Zz.i HB.out⟩
  replace c5 := Bool.eq_false_iff.mpr c5
  subst c5
  rw [if_neg Bool.false_ne_true] at H
  have H' := Aside0.mk H
  clear H
  go_wp2
  go_loopg [0, 7, 8] kj2 (fun kq v0 v7 v8 w' => ∃ (x0_2 : ByteArray) (x7_2 : List Int) (x8_2 : Int), v0 = .string x0_2 ∧ v8 = .int .i64 x8_2 ∧ Aside0 (headgateref01_TakeAll.l0 kq x0_2 a1 x7_2 x8_2 = some (r1, r2, r3)) ∧ Aside0 (kq ≤ kj2) ∧ Aside0 (Kd.R (Kd.int .i64) 3 w' w.heap.size (fun _ => True) v7 x7_2) ∧ Aside0 (Below w.heap.size w w'))
  case atStart => exact ⟨(a0), (([] : List Int)), (0), Zz.q, Zz.q, H', ⟨Nat.le_refl _⟩, ⟨by first | exact Kd.R_nil _ _ _ _ _ | exact Kd.N_nil _ _ _ _ _ | exact Kd.V_nil _ _ _ _ _ | exact Kd.Q_nil _ _ _ _ _ | exact Kd.S_nil _ _ _ _ _⟩, ⟨Zz.i HB.out⟩⟩
  case round =>
   clear H'
   (try clear p2);(try clear c3);(try clear c4);(try clear c4b0);(try clear c5)
   obtain ⟨x0_2, x7_2, x8_2, rfl, rfl, HA, HK2, HO_7, HB⟩ := hrel
   cases gk with
   | zero => exact absurd HA.out (by simp [headgateref01_TakeAll.l0])
   | succ k2 =>
    have H := HA.out
    clear HA
    simp only [headgateref01_TakeAll.l0] at H
    by_cases c6 : x8_2 < a1
    ·rw [if_pos c6] at H
     have c6b0 : decide (x8_2 < a1) = true := decide_eq_true c6
     clear c6
     replace H := Option.bind_eq_some_iff.mp H
     obtain ⟨⟨t274, t275, t276⟩, A70, H⟩ := H
     try dsimp only at H
     have A7 := Aside0.mk A70
     clear A70
     by_cases c8 : t276 = 0
     ·rw [if_pos c8] at H
      obtain ⟨c8b0, c8b1⟩ := Zr.y c8
      clear c8
      by_cases c9 : x7_2.length < 17592186044416
      ·rw [if_pos c9] at H
       have LMc9 := Aside0.mk c9
       clear c9
       obtain ⟨y277, hy277⟩ : ∃ y_ : List Int, y_ = (x7_2 ++ [t274]) := ⟨_, rfl⟩
       replace H : (headgateref01_TakeAll.l0 k2 t275 a1 y277 (wrap64 (x8_2 + 1))) = some (r1, r2, r3) := by first | (rw [hy277]; with_reducible exact H) | (have H2_ := (Option.bind_some _ _).symm.trans H; rw [hy277]; with_reducible exact H2_) | (have H2_ := (Option.bind_some _ _).symm.trans H; with_reducible exact H2_) | with_reducible exact H | (rw [hy277]; exact H) | exact H
       have Ny277 := Aside0.mk hy277
       clear hy277
       have H' := Aside0.mk H
       clear H
       go_wp2_with (first | ((with_reducible refine gate_callee (f := 35) rfl ?_); refine goesL_ (some 25) rfl rfl Try.func35 (by kernel_rfl) rfl #[.string x0_2] rfl Zz.g ?_; (with_reducible refine (headgateref01_Take.calls k2 x0_2 t274 t275 t276 _ A7.out).mono ?_); rintro e w10 ⟨rfl, hb⟩; refine ⟨_, rfl, ?_⟩; replace HO_7 := Aside0.mk (Kd.R_below (Zz.r HO_7.out) hb); replace HB := Aside0.mk (below_step (Zz.i HB.out) hb); (try clear hb)) | ((with_reducible refine gate_builtin (b := .append) (xs := #[.tmp 32, .tmp 34]) rfl ?_); at_builtin; refine Kd.R_append (Kd.int .i64) (w0 := w) w.heap.size rfl (.tmp 32) (.tmp 34) 23 3 (.int .i64 0) 8 rfl Try.underlying23 info3 rfl (by decide) (by omega) u7 x7_2 t274 [.int .i64 t274] (fun _ => True) (fun _ => False) rfl rfl ?aP (fun _ hk => hk.elim) ?aF ?aO ?aB ?aS ?aL ?_; (case aP => exact rfl); (case aB => exact (Zz.i HB.out)); (case aF => exact (fun _ _ => trivial)); (case aO => exact (Zz.r HO_7.out)); (case aS => exact (below_size (Zz.i HB.out))); (case aL => have := LMc9.out; omega); intro v278 w11 ho hb hg hat; rw [← Ny277.out] at ho; replace HB := Aside0.mk (hb); have HO279 := Aside0.mk (ho); clear HO_7; clear ho hb hg hat))
       go_roundg k2
       case measure => have := HJ2.out; have := HK2.out; omega
       case rel => exact ⟨(t275), (y277), (wrap64 (x8_2 + 1)), Zz.q, Zz.q, H', ⟨by have := HJ2.out; have := HK2.out; omega⟩, ⟨Zz.r HO279.out⟩, ⟨Zz.i HB.out⟩⟩
      rw [if_neg c9] at H
      exact absurd H (by simp)
     rw [if_neg c8] at H
     obtain ⟨c8b0, c8b1⟩ := Zr.n c8
     simp only [Option.some.injEq, Prod.mk.injEq] at H
     obtain ⟨rfl, rfl, rfl⟩ := H
     go_wp2_with (first | ((with_reducible refine gate_callee (f := 35) rfl ?_); refine goesL_ (some 25) rfl rfl Try.func35 (by kernel_rfl) rfl #[.string x0_2] rfl Zz.g ?_; (with_reducible refine (headgateref01_Take.calls k2 x0_2 t274 t275 t276 _ A7.out).mono ?_); rintro e w12 ⟨rfl, hb⟩; refine ⟨_, rfl, ?_⟩; replace HO_7 := Aside0.mk (Kd.R_below (Zz.r HO_7.out) hb); replace HB := Aside0.mk (below_step (Zz.i HB.out) hb); (try clear hb)))
     go_ret3
     exact ⟨_, Zr.e, by first | exact Kd.R_nil _ _ _ _ _ | exact Kd.N_nil _ _ _ _ _ | exact Kd.V_nil _ _ _ _ _ | exact Kd.Q_nil _ _ _ _ _ | exact Kd.S_nil _ _ _ _ _, Zz.i HB.out⟩
    rw [if_neg c6] at H
    have c6b0 : decide (x8_2 < a1) = false := decide_eq_false c6
    clear c6
    simp only [Option.some.injEq, Prod.mk.injEq] at H
    obtain ⟨rfl, rfl, rfl⟩ := H
    go_wp2
    go_ret3
    exact ⟨_, Zr.e, by (with_reducible repeat (first | apply Kd.R_alloc | apply Kd.R_drewN | apply Kd.R_drew)); exact HO_7.out, Zz.i HB.out⟩

/-! ### headgateref01_TakeText: function 51 -/
def headgateref01_TakeText.f (k : Nat) (a0 : ByteArray) (a1 : Int) : Option (ByteArray × ByteArray × Int) := (headgateref01_Take.f k a0).bind fun bt280 => (if bt280.2.2 = 0 then (if bt280.1 < 0 then (some ((⟨#[]⟩ : ByteArray), (⟨#[]⟩ : ByteArray), 2)) else (if bt280.1 > a1 then (some ((⟨#[]⟩ : ByteArray), (⟨#[]⟩ : ByteArray), 2)) else (if bt280.1 > (bt280.2.1.size : Int) then (some ((⟨#[]⟩ : ByteArray), (⟨#[]⟩ : ByteArray), 2)) else (if 0 ≤ bt280.1 then (if bt280.1 ≤ (bt280.2.1.size : Int) then (some (bt280.2.1.extract 0 (bt280.1 : Int).toNat, bt280.2.1.extract (bt280.1 : Int).toNat bt280.2.1.size, 0)) else (none)) else (none))))) else (some ((⟨#[]⟩ : ByteArray), (⟨#[]⟩ : ByteArray), 2)))
set_option maxHeartbeats 8000000 in
set_option maxRecDepth 100000 in
theorem headgateref01_TakeText.calls (k : Nat) (a0 : ByteArray) (a1 : Int) (r1 : ByteArray) (r2 : ByteArray) (r3 : Int) (w : World) (h : headgateref01_TakeText.f k a0 a1 = some (r1, r2, r3)) :
    Calls Try.prog 51 #[.string a0, .int .i64 a1] w fun e w' => e = .returned (.tuple #[.string r1, .string r2, .int .i64 r3]) ∧ Below w.heap.size w w' := by
 have HB := Aside0.mk (Below.refl w.heap.size w)
 have H : ((headgateref01_Take.f k a0).bind fun bt280 => (if bt280.2.2 = 0 then (if bt280.1 < 0 then (some ((⟨#[]⟩ : ByteArray), (⟨#[]⟩ : ByteArray), 2)) else (if bt280.1 > a1 then (some ((⟨#[]⟩ : ByteArray), (⟨#[]⟩ : ByteArray), 2)) else (if bt280.1 > (bt280.2.1.size : Int) then (some ((⟨#[]⟩ : ByteArray), (⟨#[]⟩ : ByteArray), 2)) else (if 0 ≤ bt280.1 then (if bt280.1 ≤ (bt280.2.1.size : Int) then (some (bt280.2.1.extract 0 (bt280.1 : Int).toNat, bt280.2.1.extract (bt280.1 : Int).toNat bt280.2.1.size, 0)) else (none)) else (none))))) else (some ((⟨#[]⟩ : ByteArray), (⟨#[]⟩ : ByteArray), 2)))) = some (r1, r2, r3) := h
 clear h
 replace H := Option.bind_eq_some_iff.mp H
 obtain ⟨⟨t280, t281, t282⟩, A30, H⟩ := H
 try dsimp only at H
 have A3 := Aside0.mk A30
 clear A30
 by_cases c4 : t282 = 0
 ·rw [if_pos c4] at H
  obtain ⟨c4b0, c4b1⟩ := Zr.y c4
  clear c4
  by_cases c5 : t280 < 0
  ·rw [if_pos c5] at H
   have c5b0 : decide (t280 < 0) = true := decide_eq_true c5
   clear c5
   simp only [Option.some.injEq, Prod.mk.injEq] at H
   obtain ⟨rfl, rfl, rfl⟩ := H
   go_enter Try.func51, Try.ntmps51
   go_wp2_with (first | (go_at_call 35; (with_reducible refine (headgateref01_Take.calls k a0 t280 t281 t282 _ A3.out).mono ?_); rintro e w6 ⟨rfl, hb⟩; replace HB := Aside0.mk (below_step (Zz.i HB.out) hb); (try clear hb)))
   repeat (go_quiet (first | (go_at_call 35; (with_reducible refine (headgateref01_Take.calls k a0 t280 t281 t282 _ A3.out).mono ?_); rintro e w6 ⟨rfl, hb⟩; replace HB := Aside0.mk (below_step (Zz.i HB.out) hb); (try clear hb))); try go_wp2_with (first | (go_at_call 35; (with_reducible refine (headgateref01_Take.calls k a0 t280 t281 t282 _ A3.out).mono ?_); rintro e w6 ⟨rfl, hb⟩; replace HB := Aside0.mk (below_step (Zz.i HB.out) hb); (try clear hb))))
   go_ret3
   exact ⟨Zr.e, Zz.i HB.out⟩
  rw [if_neg c5] at H
  have c5b0 : decide (t280 < 0) = false := decide_eq_false c5
  clear c5
  by_cases c7 : t280 > a1
  ·rw [if_pos c7] at H
   have c7b0 : decide (a1 < t280) = true := decide_eq_true c7
   clear c7
   simp only [Option.some.injEq, Prod.mk.injEq] at H
   obtain ⟨rfl, rfl, rfl⟩ := H
   go_enter Try.func51, Try.ntmps51
   go_wp2_with (first | (go_at_call 35; (with_reducible refine (headgateref01_Take.calls k a0 t280 t281 t282 _ A3.out).mono ?_); rintro e w8 ⟨rfl, hb⟩; replace HB := Aside0.mk (below_step (Zz.i HB.out) hb); (try clear hb)))
   repeat (go_quiet (first | (go_at_call 35; (with_reducible refine (headgateref01_Take.calls k a0 t280 t281 t282 _ A3.out).mono ?_); rintro e w8 ⟨rfl, hb⟩; replace HB := Aside0.mk (below_step (Zz.i HB.out) hb); (try clear hb))); try go_wp2_with (first | (go_at_call 35; (with_reducible refine (headgateref01_Take.calls k a0 t280 t281 t282 _ A3.out).mono ?_); rintro e w8 ⟨rfl, hb⟩; replace HB := Aside0.mk (below_step (Zz.i HB.out) hb); (try clear hb))))
   go_ret3
   exact ⟨Zr.e, Zz.i HB.out⟩
  rw [if_neg c7] at H
  have c7b0 : decide (a1 < t280) = false := decide_eq_false c7
  clear c7
  by_cases c9 : t280 > (t281.size : Int)
  ·rw [if_pos c9] at H
   have c9b0 : decide ((t281.size : Int) < t280) = true := decide_eq_true c9
   clear c9
   simp only [Option.some.injEq, Prod.mk.injEq] at H
   obtain ⟨rfl, rfl, rfl⟩ := H
   go_enter Try.func51, Try.ntmps51
   go_wp2_with (first | (go_at_call 35; (with_reducible refine (headgateref01_Take.calls k a0 t280 t281 t282 _ A3.out).mono ?_); rintro e w10 ⟨rfl, hb⟩; replace HB := Aside0.mk (below_step (Zz.i HB.out) hb); (try clear hb)))
   repeat (go_quiet (first | (go_at_call 35; (with_reducible refine (headgateref01_Take.calls k a0 t280 t281 t282 _ A3.out).mono ?_); rintro e w10 ⟨rfl, hb⟩; replace HB := Aside0.mk (below_step (Zz.i HB.out) hb); (try clear hb))); try go_wp2_with (first | (go_at_call 35; (with_reducible refine (headgateref01_Take.calls k a0 t280 t281 t282 _ A3.out).mono ?_); rintro e w10 ⟨rfl, hb⟩; replace HB := Aside0.mk (below_step (Zz.i HB.out) hb); (try clear hb))))
   go_ret3
   exact ⟨Zr.e, Zz.i HB.out⟩
  rw [if_neg c9] at H
  have c9b0 : decide ((t281.size : Int) < t280) = false := decide_eq_false c9
  clear c9
  by_cases c11 : 0 ≤ t280
  ·rw [if_pos c11] at H
   have c11b0 := eq_true c11
   have c11b1 : decide (0 ≤ t280) = true := decide_eq_true c11
   clear c11
   by_cases c12 : t280 ≤ (t281.size : Int)
   ·rw [if_pos c12] at H
    have c12b0 := eq_true c12
    have c12b1 : decide (t280 ≤ (t281.size : Int)) = true := decide_eq_true c12
    clear c12
    have c13b0 := eq_true (of_decide_eq_true (by first | (with_reducible assumption) | assumption) : 0 ≤ t280)
    have c14b0 := eq_true (of_decide_eq_true (by first | (with_reducible assumption) | assumption) : t280 ≤ (t281.size : Int))
    simp only [Option.some.injEq, Prod.mk.injEq] at H
    obtain ⟨rfl, rfl, rfl⟩ := H
    go_enter Try.func51, Try.ntmps51
    go_wp2_with (first | (go_at_call 35; (with_reducible refine (headgateref01_Take.calls k a0 t280 t281 t282 _ A3.out).mono ?_); rintro e w15 ⟨rfl, hb⟩; replace HB := Aside0.mk (below_step (Zz.i HB.out) hb); (try clear hb)))
    repeat (go_quiet (first | (go_at_call 35; (with_reducible refine (headgateref01_Take.calls k a0 t280 t281 t282 _ A3.out).mono ?_); rintro e w15 ⟨rfl, hb⟩; replace HB := Aside0.mk (below_step (Zz.i HB.out) hb); (try clear hb))); try go_wp2_with (first | (go_at_call 35; (with_reducible refine (headgateref01_Take.calls k a0 t280 t281 t282 _ A3.out).mono ?_); rintro e w15 ⟨rfl, hb⟩; replace HB := Aside0.mk (below_step (Zz.i HB.out) hb); (try clear hb))))
    go_ret3
    exact ⟨Zr.e, Zz.i HB.out⟩
   rw [if_neg c12] at H
   exact absurd H (by simp)
  rw [if_neg c11] at H
  exact absurd H (by simp)
 rw [if_neg c4] at H
 obtain ⟨c4b0, c4b1⟩ := Zr.n c4
 simp only [Option.some.injEq, Prod.mk.injEq] at H
 obtain ⟨rfl, rfl, rfl⟩ := H
 go_enter Try.func51, Try.ntmps51
 go_wp2_with (first | (go_at_call 35; (with_reducible refine (headgateref01_Take.calls k a0 t280 t281 t282 _ A3.out).mono ?_); rintro e w16 ⟨rfl, hb⟩; replace HB := Aside0.mk (below_step (Zz.i HB.out) hb); (try clear hb)))
 repeat (go_quiet (first | (go_at_call 35; (with_reducible refine (headgateref01_Take.calls k a0 t280 t281 t282 _ A3.out).mono ?_); rintro e w16 ⟨rfl, hb⟩; replace HB := Aside0.mk (below_step (Zz.i HB.out) hb); (try clear hb))); try go_wp2_with (first | (go_at_call 35; (with_reducible refine (headgateref01_Take.calls k a0 t280 t281 t282 _ A3.out).mono ?_); rintro e w16 ⟨rfl, hb⟩; replace HB := Aside0.mk (below_step (Zz.i HB.out) hb); (try clear hb))))
 go_ret3
 exact ⟨Zr.e, Zz.i HB.out⟩

end Go.Proofs.Ytikbpjdgihheiaa.P
end
