-- Written by wip/mk.py of this repo: the kit's print program, with contracts of our own among its functions (merge.py: Px33 Px34).
import Derived.Test.YtikbpjdgihheiaaM0
import Derived.Test.YtikbpjdgihheiaaM8
import Derived.Test.YtikbpjdgihheiaaM10
import Derived.Test.YtikbpjdgihheiaaZz
import Derived.Test.YtikbpjdgihheiaaZr
import Derived.Test.YtikbpjdgihheiaaM9
section
namespace Go.Proofs.Ytikbpjdgihheiaa.P
open Go.RowKit Go.Proofs.YtikbpjdgihheiaaW.PrintWords Go.Proofs.YtikbpjdgihheiaaW.PrintLast Go.Proofs.YtikbpjdgihheiaaW.PrintMore
attribute [local go_sem] max2_int min2_int max_two min_two max_three min_three max_four min_four   -- for this text's walks alone
attribute [local go_sem ↓] Kp.LDAsk_in
attribute [local go_sem] Kp.LDAsk_run
set_option linter.unusedVariables false
set_option linter.unusedSimpArgs false

/-! ### headgateref06_Encode: function 46 -/
def headgateref06_Encode.l0 : Nat → ByteArray → Int → Int → Int → Int → Int → List (S57) → Option (ByteArray × Int)
  | 0, _, _, _, _, _, _, _ => none
  | k + 1, x4, x5, x436000, x436001, x436002, x436003, x436004 => if x5 < (x436004.length : Int) then (if 0 ≤ x5 then ((headgateref06_Record.f k ((rd_T57 x436004 x5).f0) ((rd_T57 x436004 x5).f1) ((rd_T57 x436004 x5).f2)).bind fun t443 => (if x4.size + t443.size ≤ 9223372036854775807 then (headgateref06_Encode.l0 k (x4 ++ t443) (wrap64 (x5 + 1)) x436000 x436001 x436002 x436003 x436004) else (none))) else (none)) else (some (x4, 0))
def headgateref06_Encode.f (k : Nat) (a0_0 : Int) (a0_1 : Int) (a0_2 : Int) (a0_3 : Int) (l0_4 : List (S57)) : Option (ByteArray × Int) := (headgateref06_May.f k a0_0 a0_1 a0_2 a0_3 l0_4).bind fun t436 => (if t436 = true then ((headgateref01_Put.f k a0_0).bind fun t437 => ((headgateref01_Put.f k a0_1).bind fun t438 => (if t437.size + t438.size ≤ 9223372036854775807 then ((headgateref01_Put.f k a0_2).bind fun t439 => (if (t437 ++ t438).size + t439.size ≤ 9223372036854775807 then ((headgateref01_Put.f k a0_3).bind fun t440 => (if ((t437 ++ t438) ++ t439).size + t440.size ≤ 9223372036854775807 then ((headgateref01_Put.f k (l0_4.length : Int)).bind fun t441 => (if (((t437 ++ t438) ++ t439) ++ t440).size + t441.size ≤ 9223372036854775807 then (headgateref06_Encode.l0 k ((((t437 ++ t438) ++ t439) ++ t440) ++ t441) 0 a0_0 a0_1 a0_2 a0_3 l0_4) else (none))) else (none))) else (none))) else (none)))) else (some ((⟨#[]⟩ : ByteArray), 1)))
def headgateref06_Encode.T3 : Bool × List (List Nat × List Nat) := (true, [([], []), ([0], [0]), ([1], [1]), ([], []), ([3], [3]), ([4, 2], [4]), ([2, 5], [2, 5]), ([], []), ([7], [7]), ([8, 5], [8]), ([6, 9], [6, 9]), ([], []), ([11], [11]), ([12, 9], [12]), ([10, 13], [10, 13]), ([], []), ([15], [15]), ([16], [16]), ([17, 13], [17]), ([14, 18], [14, 18]), ([19, 18, 0, 1, 2, 3, 4, 5, 6, 7, 8, 9, 10, 11, 12, 13, 14, 15, 16, 17, 18, 19], [19])])
def headgateref06_Encode.B3 : List Nat := [0, 1, 3, 0, 8, 31, 63, 0, 128, 447, 1023, 0, 2048, 7103, 16383, 0, 32768, 98304, 244671, 524287, 1048575]
theorem headgateref06_Encode.tab3 : rtab .any (opsOf Try.f46 3) = headgateref06_Encode.T3 := by kernel_rfl
theorem headgateref06_Encode.bits3 : waitsOk headgateref06_Encode.T3.2 headgateref06_Encode.B3 = true := by kernel_rfl
set_option maxHeartbeats 8000000 in
set_option maxRecDepth 100000 in
theorem headgateref06_Encode.calls (k : Nat) (a0_0 : Int) (a0_1 : Int) (a0_2 : Int) (a0_3 : Int) (A0_4 : Option Addr) (c0_4 : Nat) (l0_4 : List (S57)) (r1 : ByteArray) (r2 : Int) (w : World) (hr0_4 : Kd.C k57 w A0_4 l0_4.length l0_4) (hc0_4 : l0_4.length ≤ c0_4) (h : headgateref06_Encode.f k a0_0 a0_1 a0_2 a0_3 l0_4 = some (r1, r2)) :
    Calls Try.prog 46 #[.agg #[.int .i64 a0_0, .int .i64 a0_1, .int .i64 a0_2, .int .i64 a0_3, .slice A0_4 l0_4.length c0_4]] w fun e w' => e = .returned (.tuple #[.string r1, .int .i64 r2]) ∧ Below w.heap.size w w' := by
 have hu41 := Try.underlying41
 have hu57 := Try.underlying57
 have HR0_4 := Aside0.mk hr0_4
 have HC0_4 := Aside0.mk hc0_4
 clear hr0_4 hc0_4
 have HB := Aside0.mk (Below.refl w.heap.size w)
 have H : ((headgateref06_May.f k a0_0 a0_1 a0_2 a0_3 l0_4).bind fun t436 => (if t436 = true then ((headgateref01_Put.f k a0_0).bind fun t437 => ((headgateref01_Put.f k a0_1).bind fun t438 => (if t437.size + t438.size ≤ 9223372036854775807 then ((headgateref01_Put.f k a0_2).bind fun t439 => (if (t437 ++ t438).size + t439.size ≤ 9223372036854775807 then ((headgateref01_Put.f k a0_3).bind fun t440 => (if ((t437 ++ t438) ++ t439).size + t440.size ≤ 9223372036854775807 then ((headgateref01_Put.f k (l0_4.length : Int)).bind fun t441 => (if (((t437 ++ t438) ++ t439) ++ t440).size + t441.size ≤ 9223372036854775807 then (headgateref06_Encode.l0 k ((((t437 ++ t438) ++ t439) ++ t440) ++ t441) 0 a0_0 a0_1 a0_2 a0_3 l0_4) else (none))) else (none))) else (none))) else (none)))) else (some ((⟨#[]⟩ : ByteArray), 1)))) = some (r1, r2) := h
 clear h
 replace H := Option.bind_eq_some_iff.mp H
 obtain ⟨t436, A20, H⟩ := H
 try dsimp only at H
 have A2 := Aside0.mk A20
 clear A20
 by_cases c3 : t436 = true
 ·subst c3
  rw [if_pos rfl] at H
  replace H := Option.bind_eq_some_iff.mp H
  obtain ⟨t437, A40, H⟩ := H
  try dsimp only at H
  have A4 := Aside0.mk A40
  clear A40
  replace H := Option.bind_eq_some_iff.mp H
  obtain ⟨t438, A50, H⟩ := H
  try dsimp only at H
  have A5 := Aside0.mk A50
  clear A50
  by_cases c6 : t437.size + t438.size ≤ 9223372036854775807
  ·rw [if_pos c6] at H
   have c6b0 := eq_true c6
   have c6b1 : decide (t437.size + t438.size ≤ 9223372036854775807) = true := decide_eq_true c6
   try have c6b2 : (9223372036854775807 < t437.size + t438.size) = False := eq_false (Nat.not_lt.2 c6)
   replace H := Option.bind_eq_some_iff.mp H
   obtain ⟨t439, A70, H⟩ := H
   try dsimp only at H
   have A7 := Aside0.mk A70
   clear A70
   by_cases c8 : (t437 ++ t438).size + t439.size ≤ 9223372036854775807
   ·rw [if_pos c8] at H
    have c8b0 := eq_true c8
    have c8b1 : decide ((t437 ++ t438).size + t439.size ≤ 9223372036854775807) = true := decide_eq_true c8
    try have c8b2 : (9223372036854775807 < (t437 ++ t438).size + t439.size) = False := eq_false (Nat.not_lt.2 c8)
    try (have c8b9 := c8b2; simp only [ByteArray.size_append] at c8b9)
    replace H := Option.bind_eq_some_iff.mp H
    obtain ⟨t440, A90, H⟩ := H
    try dsimp only at H
    have A9 := Aside0.mk A90
    clear A90
    by_cases c10 : ((t437 ++ t438) ++ t439).size + t440.size ≤ 9223372036854775807
    ·rw [if_pos c10] at H
     have c10b0 := eq_true c10
     have c10b1 : decide (((t437 ++ t438) ++ t439).size + t440.size ≤ 9223372036854775807) = true := decide_eq_true c10
     try have c10b2 : (9223372036854775807 < ((t437 ++ t438) ++ t439).size + t440.size) = False := eq_false (Nat.not_lt.2 c10)
     try (have c10b9 := c10b2; simp only [ByteArray.size_append] at c10b9)
     replace H := Option.bind_eq_some_iff.mp H
     obtain ⟨t441, A110, H⟩ := H
     try dsimp only at H
     have A11 := Aside0.mk A110
     clear A110
     by_cases c12 : (((t437 ++ t438) ++ t439) ++ t440).size + t441.size ≤ 9223372036854775807
     ·rw [if_pos c12] at H
      have c12b0 := eq_true c12
      have c12b1 : decide ((((t437 ++ t438) ++ t439) ++ t440).size + t441.size ≤ 9223372036854775807) = true := decide_eq_true c12
      try have c12b2 : (9223372036854775807 < (((t437 ++ t438) ++ t439) ++ t440).size + t441.size) = False := eq_false (Nat.not_lt.2 c12)
      try (have c12b9 := c12b2; simp only [ByteArray.size_append] at c12b9)
      have H' := Aside0.mk H
      clear H
      go_enter Try.func46, Try.ntmps46
      try go_wp2_with (first | ((with_reducible refine gate_dst (N := 1) rfl ?_); refine box_event ?hg (N := 1) ?hd (cs := #[.int .i64 a0_0, .int .i64 a0_1, .int .i64 a0_2, .int .i64 a0_3, .slice A0_4 l0_4.length c0_4]) (t := 41) ?hr ?_; (case hd => rfl); (case hg => rfl); (case hr => first | (go_simp; done) | (go_simp; rfl)); intro gb435 hg w13 hbox hb; have BK435 := Aside0.mk (hbox); have GW435 := Aside0.mk (Zz.ge hg HB.out); have GE435 := Aside0.mk (Zz.ge hg HB.out); replace HB := Aside0.mk (below_step (Zz.i HB.out) hb); clear hb hbox hg; have hcz14 := Zz.c5 BK435.out; have hfz14 := blk_frozen BK435.out) | ((with_reducible refine gate_callee (f := 61) rfl ?_); refine goesL_ (some 7) rfl rfl Try.func61 (by kernel_rfl) rfl #[.agg #[.int .i64 a0_0, .int .i64 a0_1, .int .i64 a0_2, .int .i64 a0_3, .slice A0_4 l0_4.length c0_4]] rfl Zz.g ?_; (with_reducible refine (headgateref06_May.calls k a0_0 a0_1 a0_2 a0_3 _ _ l0_4 true _ ?side1 ?side2 A2.out).mono ?_); (case side1 => exact Zz.k (Kd.C_below HR0_4.out HB.out)); (case side2 => exact HC0_4.out); rintro e w15 ⟨rfl, hb⟩; refine ⟨_, rfl, ?_⟩; replace BK435 := Aside0.mk (Zz.bb BK435.out hb); replace HB := Aside0.mk (below_step (Zz.i HB.out) hb); (try clear hb)))
      have n0_ := Aside0.mk (blk_drew BK435.out)
      have n1_ := Aside0.mk (below_drew1 HB.out)
      clear BK435
      clear HB
      have BK435 := n0_
      have HB := n1_
      clear n0_ n1_
      refine start_ (n := 21) (S := fun w' => Zr.B5 gb435 (.int .i64 a0_0) (.int .i64 a0_1) (.int .i64 a0_2) (.int .i64 a0_3) (.slice A0_4 l0_4.length c0_4) w') (ds := []) #[false, false, false, false, false, false, false, false, false, false, false, false, false, false, false, false, false, false, false, false, false] (by kernel_rfl) rfl rfl (Zz.c5 BK435.out) (fun hHeld => ?_); refine with_tabW headgateref06_Encode.tab3 headgateref06_Encode.bits3 (fun HT_ HW_ => ?_)
      generalize w15.drew = w16 at BK435 HB hHeld ⊢
      refine Zr.pu 0 9 HT_.out ?_
      refine Zr.pu 3 12 HT_.out ?_
      refine Zr.pu 7 16 HT_.out ?_
      refine Zr.pu 11 20 HT_.out ?_
      refine Zr.pu 15 24 HT_.out ?_
      refine Zr.ta 1 10 HT_.out HW_.out hHeld ?_
      refine Zr.ta 4 13 HT_.out HW_.out hHeld ?_
      refine Zr.ta 8 17 HT_.out HW_.out hHeld ?_
      refine Zr.ta 12 21 HT_.out HW_.out hHeld ?_
      refine Zr.ta 16 25 HT_.out HW_.out hHeld ?_
      refine Zr.pu 17 26 HT_.out ?_
      refine one_ (i := 2) (N := some 11) #[true, true, true, true, true, false, false, true, true, false, false, true, true, false, false, true, true, true, false, false, false] rfl rfl (one_of HT_.out (by kernel_rfl)) (by decide) (fun K hK => ?_)
      refine goes_ Try.func29 (by kernel_rfl) rfl #[.int .i64 a0_0] (by rfl) rfl rfl (by (try simp only [List.map_toArray, List.map_cons, List.map_nil]); first | done | rfl | (simp only [List.length_drop, List.length_take]; rfl)) ?_
      with_reducible refine (headgateref01_Put.calls k a0_0 t437 _ A4.out).mono ?_
      rintro e w17 ⟨rfl, hb⟩
      refine ⟨_, rfl, ?_⟩
      have n0_ := Aside0.mk (Zz.bb BK435.out hb)
      have n1_ := Aside0.mk (below_step (Zz.i HB.out) hb)
      clear BK435
      clear HB
      have BK435 := n0_
      have HB := n1_
      clear n0_ n1_
      (try clear hb)
      (try clear hb2)
      (try clear hk)
      (try clear hi)
      refine hK.out _ _ (Zz.c5 BK435.out) (fun hHeld => ?_)
      clear hK K
      refine norm_ (a' := ?_) ?_ ?_
      rotate_left
      ·show Act.put _ (some 11) _ = _
       simp only [Act.put, List.setIfInBounds_toArray, List.set_cons_zero, List.set_cons_succ, i64_w, i32_w]
       rfl
      refine one_ (i := 5) (N := some 14) #[true, true, true, true, true, true, false, true, true, false, false, true, true, false, false, true, true, true, false, false, false] rfl rfl (one_of HT_.out (by kernel_rfl)) (by decide) (fun K hK => ?_)
      refine goes_ Try.func29 (by kernel_rfl) rfl #[.int .i64 a0_1] (by rfl) rfl rfl (by (try simp only [List.map_toArray, List.map_cons, List.map_nil]); first | done | rfl | (simp only [List.length_drop, List.length_take]; rfl)) ?_
      with_reducible refine (headgateref01_Put.calls k a0_1 t438 _ A5.out).mono ?_
      rintro e w18 ⟨rfl, hb⟩
      refine ⟨_, rfl, ?_⟩
      have n0_ := Aside0.mk (Zz.bb BK435.out hb)
      have n1_ := Aside0.mk (below_step (Zz.i HB.out) hb)
      clear BK435
      clear HB
      have BK435 := n0_
      have HB := n1_
      clear n0_ n1_
      (try clear hb)
      (try clear hb2)
      (try clear hk)
      (try clear hi)
      refine hK.out _ _ (Zz.c5 BK435.out) (fun hHeld => ?_)
      clear hK K
      refine norm_ (a' := ?_) ?_ ?_
      rotate_left
      ·show Act.put _ (some 14) _ = _
       simp only [Act.put, List.setIfInBounds_toArray, List.set_cons_zero, List.set_cons_succ, i64_w, i32_w]
       rfl
      refine Zr.pu 6 15 HT_.out ?_
      refine one_ (i := 9) (N := some 18) #[true, true, true, true, true, true, true, true, true, true, false, true, true, false, false, true, true, true, false, false, false] rfl rfl (one_of HT_.out (by kernel_rfl)) (by decide) (fun K hK => ?_)
      refine goes_ Try.func29 (by kernel_rfl) rfl #[.int .i64 a0_2] (by rfl) rfl rfl (by (try simp only [List.map_toArray, List.map_cons, List.map_nil]); first | done | rfl | (simp only [List.length_drop, List.length_take]; rfl)) ?_
      with_reducible refine (headgateref01_Put.calls k a0_2 t439 _ A7.out).mono ?_
      rintro e w19 ⟨rfl, hb⟩
      refine ⟨_, rfl, ?_⟩
      have n0_ := Aside0.mk (Zz.bb BK435.out hb)
      have n1_ := Aside0.mk (below_step (Zz.i HB.out) hb)
      clear BK435
      clear HB
      have BK435 := n0_
      have HB := n1_
      clear n0_ n1_
      (try clear hb)
      (try clear hb2)
      (try clear hk)
      (try clear hi)
      refine hK.out _ _ (Zz.c5 BK435.out) (fun hHeld => ?_)
      clear hK K
      refine norm_ (a' := ?_) ?_ ?_
      rotate_left
      ·show Act.put _ (some 18) _ = _
       simp only [Act.put, List.setIfInBounds_toArray, List.set_cons_zero, List.set_cons_succ, i64_w, i32_w]
       rfl
      refine Zr.pu 10 19 HT_.out ?_
      refine one_ (i := 13) (N := some 22) #[true, true, true, true, true, true, true, true, true, true, true, true, true, true, false, true, true, true, false, false, false] rfl rfl (one_of HT_.out (by kernel_rfl)) (by decide) (fun K hK => ?_)
      refine goes_ Try.func29 (by kernel_rfl) rfl #[.int .i64 a0_3] (by rfl) rfl rfl (by (try simp only [List.map_toArray, List.map_cons, List.map_nil]); first | done | rfl | (simp only [List.length_drop, List.length_take]; rfl)) ?_
      with_reducible refine (headgateref01_Put.calls k a0_3 t440 _ A9.out).mono ?_
      rintro e w20 ⟨rfl, hb⟩
      refine ⟨_, rfl, ?_⟩
      have n0_ := Aside0.mk (Zz.bb BK435.out hb)
      have n1_ := Aside0.mk (below_step (Zz.i HB.out) hb)
      clear BK435
      clear HB
      have BK435 := n0_
      have HB := n1_
      clear n0_ n1_
      (try clear hb)
      (try clear hb2)
      (try clear hk)
      (try clear hi)
      refine hK.out _ _ (Zz.c5 BK435.out) (fun hHeld => ?_)
      clear hK K
      refine norm_ (a' := ?_) ?_ ?_
      rotate_left
      ·show Act.put _ (some 22) _ = _
       simp only [Act.put, List.setIfInBounds_toArray, List.set_cons_zero, List.set_cons_succ, i64_w, i32_w]
       rfl
      refine Zr.pu 14 23 HT_.out ?_
      refine one_ (i := 18) (N := some 27) #[true, true, true, true, true, true, true, true, true, true, true, true, true, true, true, true, true, true, true, false, false] rfl rfl (one_of HT_.out (by kernel_rfl)) (by decide) (fun K hK => ?_)
      refine goes_ Try.func29 (by kernel_rfl) rfl #[.int .i64 (l0_4.length : Int)] (by rfl) rfl rfl (by (try simp only [List.map_toArray, List.map_cons, List.map_nil]); first | done | rfl | (simp only [List.length_drop, List.length_take]; rfl)) ?_
      with_reducible refine (headgateref01_Put.calls k (l0_4.length : Int) t441 _ A11.out).mono ?_
      rintro e w21 ⟨rfl, hb⟩
      refine ⟨_, rfl, ?_⟩
      have n0_ := Aside0.mk (Zz.bb BK435.out hb)
      have n1_ := Aside0.mk (below_step (Zz.i HB.out) hb)
      clear BK435
      clear HB
      have BK435 := n0_
      have HB := n1_
      clear n0_ n1_
      (try clear hb)
      (try clear hb2)
      (try clear hk)
      (try clear hi)
      refine hK.out _ _ (Zz.c5 BK435.out) (fun hHeld => ?_)
      clear hK K
      refine norm_ (a' := ?_) ?_ ?_
      rotate_left
      ·show Act.put _ (some 27) _ = _
       simp only [Act.put, List.setIfInBounds_toArray, List.set_cons_zero, List.set_cons_succ, i64_w, i32_w]
       rfl
      refine Zr.pu 19 28 HT_.out ?_
      refine Zr.pu 20 4 HT_.out ?_
      refine done_ (done_of HT_.out (by kernel_rfl)) ?_
      try go_wp2
      go_loopg [4, 5] k (fun kq v4 v5 w' => ∃ (x4_1 : ByteArray) (x5_1 : Int), v4 = .string x4_1 ∧ v5 = .int .i64 x5_1 ∧ Aside0 (headgateref06_Encode.l0 kq x4_1 x5_1 a0_0 a0_1 a0_2 a0_3 l0_4 = some (r1, r2)) ∧ Aside0 (kq ≤ k) ∧ Aside0 (w'.heap[gb435]? = some (.cells #[.int .i64 a0_0, .int .i64 a0_1, .int .i64 a0_2, .int .i64 a0_3, (.slice A0_4 l0_4.length c0_4)] 41 (0, 0))) ∧ Aside0 (Below w.heap.size w w'))
      case atStart => exact ⟨((((t437 ++ t438) ++ t439) ++ t440) ++ t441), (0), Zz.q, Zz.q, H', ⟨Nat.le_refl _⟩, ⟨Zz.p BK435.out⟩, ⟨Zz.i HB.out⟩⟩
      case round =>
       clear H'
       (try clear c1);(try clear c2);(try clear p2);(try clear c3);(try clear c4);(try clear c6);(try clear c6b0);(try clear c6b1);(try clear c6b2);(try clear c8);(try clear c8b0);(try clear c8b1);(try clear c8b2);(try clear c10);(try clear c10b0);(try clear c10b1);(try clear c10b2);(try clear c12);(try clear c12b0);(try clear c12b1);(try clear c12b2);(try clear hcz14);(try clear hfz14)
       obtain ⟨x4_1, x5_1, rfl, rfl, HA, HK1, BK435, HB⟩ := hrel
       cases gk with
       | zero => exact absurd HA.out (by simp [headgateref06_Encode.l0])
       | succ k1 =>
        have H := HA.out
        clear HA
        simp only [headgateref06_Encode.l0] at H
        by_cases c22 : x5_1 < (l0_4.length : Int)
        ·rw [if_pos c22] at H
         have c22b0 : decide (x5_1 < (l0_4.length : Int)) = true := decide_eq_true c22
         clear c22
         by_cases c23 : 0 ≤ x5_1
         ·rw [if_pos c23] at H
          have c23b0 : decide (0 ≤ x5_1) = true := decide_eq_true c23
          clear c23
          replace H := Option.bind_eq_some_iff.mp H
          obtain ⟨t443, A240, H⟩ := H
          try dsimp only at H
          have A24 := Aside0.mk A240
          clear A240
          by_cases c25 : x4_1.size + t443.size ≤ 9223372036854775807
          ·rw [if_pos c25] at H
           have c25b0 := eq_true c25
           have c25b1 : decide (x4_1.size + t443.size ≤ 9223372036854775807) = true := decide_eq_true c25
           try have c25b2 : (9223372036854775807 < x4_1.size + t443.size) = False := eq_false (Nat.not_lt.2 c25)
           have H' := Aside0.mk H
           clear H
           have hcz26 := Zz.c5 BK435.out
           have hfz26 := blk_frozen BK435.out
           have p442 : 0 ≤ (x5_1 : Int) := of_decide_eq_true (by first | (with_reducible assumption) | assumption)
           have q442 : x5_1 < (l0_4.length : Int) := of_decide_eq_true (by first | (with_reducible assumption) | assumption)
           obtain ⟨ad442, e442, hx442_0, hx442_1, hx442_2⟩ := at_T57 HR0_4.out x5_1 p442 q442
           cases e442
           replace hx442_0 := (HB.out.cell (World.block_lt_of_cell? w _ hx442_0)).trans hx442_0
           replace hx442_1 := (HB.out.cell (World.block_lt_of_cell? w _ hx442_1)).trans hx442_1
           replace hx442_2 := (HB.out.cell (World.block_lt_of_cell? w _ hx442_2)).trans hx442_2
           replace p442 := eq_true p442
           replace q442 := eq_true q442
           go_wp2_with (first | ((with_reducible refine gate_callee (f := 31) rfl ?_); refine goesL_ (some 42) rfl rfl Try.func31 (by kernel_rfl) rfl #[.agg #[.int .i64 ((rd_T57 l0_4 x5_1).f0), .int .i64 ((rd_T57 l0_4 x5_1).f1), .string ((rd_T57 l0_4 x5_1).f2)]] rfl Zz.g ?_; (with_reducible refine (headgateref06_Record.calls k1 ((rd_T57 l0_4 x5_1).f0) ((rd_T57 l0_4 x5_1).f1) ((rd_T57 l0_4 x5_1).f2) t443 _ A24.out).mono ?_); rintro e w27 ⟨rfl, hb⟩; refine ⟨_, rfl, ?_⟩; replace BK435 := Aside0.mk (Zz.bb BK435.out hb); replace HB := Aside0.mk (below_step (Zz.i HB.out) hb); (try clear hb)))
           go_roundg k1
           case measure => have := HK1.out; omega
           case rel => exact ⟨(x4_1 ++ t443), (wrap64 (x5_1 + 1)), Zz.q, Zz.q, H', ⟨by have := HK1.out; omega⟩, ⟨Zz.p BK435.out⟩, ⟨Zz.i HB.out⟩⟩
          rw [if_neg c25] at H
          exact absurd H (by simp)
         rw [if_neg c23] at H
         exact absurd H (by simp)
        rw [if_neg c22] at H
        have c22b0 : decide (x5_1 < (l0_4.length : Int)) = false := decide_eq_false c22
        clear c22
        simp only [Option.some.injEq, Prod.mk.injEq] at H
        obtain ⟨rfl, rfl⟩ := H
        have hcz28 := Zz.c5 BK435.out
        have hfz28 := blk_frozen BK435.out
        go_wp2
        go_ret2
        exact ⟨Zr.e, Zz.i HB.out⟩
     rw [if_neg c12] at H
     exact absurd H (by simp)
    rw [if_neg c10] at H
    exact absurd H (by simp)
   rw [if_neg c8] at H
   exact absurd H (by simp)
  rw [if_neg c6] at H
  exact absurd H (by simp)
 replace c3 := Bool.eq_false_iff.mpr c3
 subst c3
 rw [if_neg Bool.false_ne_true] at H
 simp only [Option.some.injEq, Prod.mk.injEq] at H
 obtain ⟨rfl, rfl⟩ := H
 go_enter Try.func46, Try.ntmps46
 go_wp2_with (first | ((with_reducible refine gate_dst (N := 1) rfl ?_); refine box_event ?hg (N := 1) ?hd (cs := #[.int .i64 a0_0, .int .i64 a0_1, .int .i64 a0_2, .int .i64 a0_3, .slice A0_4 l0_4.length c0_4]) (t := 41) ?hr ?_; (case hd => rfl); (case hg => rfl); (case hr => first | (go_simp; done) | (go_simp; rfl)); intro gb435 hg w29 hbox hb; have BK435 := Aside0.mk (hbox); have GW435 := Aside0.mk (Zz.ge hg HB.out); have GE435 := Aside0.mk (Zz.ge hg HB.out); replace HB := Aside0.mk (below_step (Zz.i HB.out) hb); clear hb hbox hg; have hcz30 := Zz.c5 BK435.out; have hfz30 := blk_frozen BK435.out) | ((with_reducible refine gate_callee (f := 61) rfl ?_); refine goesL_ (some 7) rfl rfl Try.func61 (by kernel_rfl) rfl #[.agg #[.int .i64 a0_0, .int .i64 a0_1, .int .i64 a0_2, .int .i64 a0_3, .slice A0_4 l0_4.length c0_4]] rfl Zz.g ?_; (with_reducible refine (headgateref06_May.calls k a0_0 a0_1 a0_2 a0_3 _ _ l0_4 false _ ?side1 ?side2 A2.out).mono ?_); (case side1 => exact Zz.k (Kd.C_below HR0_4.out HB.out)); (case side2 => exact HC0_4.out); rintro e w31 ⟨rfl, hb⟩; refine ⟨_, rfl, ?_⟩; replace BK435 := Aside0.mk (Zz.bb BK435.out hb); replace HB := Aside0.mk (below_step (Zz.i HB.out) hb); (try clear hb)))
 go_ret2
 exact ⟨Zr.e, Zz.i HB.out⟩

end Go.Proofs.Ytikbpjdgihheiaa.P
end
section
namespace Go.Proofs.Ytikbpjdgihheiaa.P
open Go.RowKit Go.Proofs.YtikbpjdgihheiaaW.PrintWords Go.Proofs.YtikbpjdgihheiaaW.PrintLast Go.Proofs.YtikbpjdgihheiaaW.PrintMore
attribute [local go_sem] max2_int min2_int max_two min_two max_three min_three max_four min_four   -- for this text's walks alone
attribute [local go_sem ↓] Kp.LDAsk_in
attribute [local go_sem] Kp.LDAsk_run
set_option linter.unusedVariables false
set_option linter.unusedSimpArgs false

/-! ### headgateref18_EncodeAsk: function 17 -/
def headgateref18_EncodeAsk.l0 : Nat → ByteArray → List Int → List Int → Int → Int → Int → Int → Int → Int → Int → Int → Int → Int → Int → Int → Int → Bool → Int → Int → Int → Int → List (S57) → Option (ByteArray × Int)
  | 0, _, _, _, _, _, _, _, _, _, _, _, _, _, _, _, _, _, _, _, _, _, _ => none
  | k + 1, x4, x5, x6, x7, x445000, x445001, x445002, x445003, x445004, x445005, x445006, x445007, x445008, x445009, x445010, x445011, x445012, x445013, x445014, x445015, x445016, x445017 => if x7 < (x5.length : Int) then (if 0 ≤ x7 then (if 0 ≤ (rd x5 x7) then (if (rd x5 x7) < (x6.length : Int) then ((headgateref01_Put.f k (rd x6 (rd x5 x7))).bind fun t456 => (if x4.size + t456.size ≤ 9223372036854775807 then (headgateref18_EncodeAsk.l0 k (x4 ++ t456) x5 x6 (wrap64 (x7 + 1)) x445000 x445001 x445002 x445003 x445004 x445005 x445006 x445007 x445008 x445009 x445010 x445011 x445012 x445013 x445014 x445015 x445016 x445017) else (none))) else (none)) else (none)) else (none)) else (if x445000 = 3 then ((headgateref06_Encode.f k x445013 x445014 x445015 x445016 x445017).bind fun bt457 => ((headgateref01_Text.f k bt457.1).bind fun t459 => (if x4.size + t459.size ≤ 9223372036854775807 then (some (x4 ++ t459, 0)) else (none)))) else (some (x4, 0)))
def headgateref18_EncodeAsk.f (k : Nat) (a0_0 : Int) (a0_1 : Int) (a0_2 : Int) (a0_3 : Int) (a0_4 : Int) (a0_5 : Int) (a0_6 : Int) (a0_7 : Int) (a0_8 : Int) (a0_9 : Int) (a0_10 : Int) (a0_11 : Int) (a0_12 : Bool) (a0_13 : Int) (a0_14 : Int) (a0_15 : Int) (a0_16 : Int) (l0_17 : List (S57)) : Option (ByteArray × Int) := (headgateref18_MayAsk.f k a0_0 a0_1 a0_2 a0_3 a0_4 a0_5 a0_6 a0_7 a0_8 a0_9 a0_10 a0_11 a0_12 a0_13 a0_14 a0_15 a0_16 l0_17).bind fun t445 => (if t445 = true then ((headgateref01_Put.f k a0_0).bind fun t446 => ((headgateref01_Put.f k a0_1).bind fun t447 => (if t446.size + t447.size ≤ 9223372036854775807 then ((headgateref18_which.f k a0_0).bind fun t448 => ((headgateref18_list.f a0_0 a0_1 a0_2 a0_3 a0_4 a0_5 a0_6 a0_7 a0_8 a0_9 a0_10 a0_11 a0_12 a0_13 a0_14 a0_15 a0_16 l0_17).bind fun t451 => (headgateref18_EncodeAsk.l0 k (t446 ++ t447) t448 t451 0 a0_0 a0_1 a0_2 a0_3 a0_4 a0_5 a0_6 a0_7 a0_8 a0_9 a0_10 a0_11 a0_12 a0_13 a0_14 a0_15 a0_16 l0_17))) else (none)))) else (some ((⟨#[]⟩ : ByteArray), 1)))
def headgateref18_EncodeAsk.T3 : Bool × List (List Nat × List Nat) := (true, [([], []), ([0], [0]), ([1], [1]), ([], []), ([3], [3]), ([4, 2], [4]), ([2, 5], [2, 5]), ([6, 5, 0, 1, 2, 3, 4, 5, 6], [6])])
def headgateref18_EncodeAsk.B3 : List Nat := [0, 1, 3, 0, 8, 31, 63, 127]
theorem headgateref18_EncodeAsk.tab3 : rtab .any (opsOf Try.f17 3) = headgateref18_EncodeAsk.T3 := by kernel_rfl
theorem headgateref18_EncodeAsk.bits3 : waitsOk headgateref18_EncodeAsk.T3.2 headgateref18_EncodeAsk.B3 = true := by kernel_rfl
set_option maxHeartbeats 8000000 in
set_option maxRecDepth 100000 in
theorem headgateref18_EncodeAsk.calls (k : Nat) (a0_0 : Int) (a0_1 : Int) (a0_2 : Int) (a0_3 : Int) (a0_4 : Int) (a0_5 : Int) (a0_6 : Int) (a0_7 : Int) (a0_8 : Int) (a0_9 : Int) (a0_10 : Int) (a0_11 : Int) (a0_12 : Bool) (a0_13 : Int) (a0_14 : Int) (a0_15 : Int) (a0_16 : Int) (A0_17 : Option Addr) (c0_17 : Nat) (l0_17 : List (S57)) (r1 : ByteArray) (r2 : Int) (w : World) (hr0_17 : Kd.C k57 w A0_17 l0_17.length l0_17) (hc0_17 : l0_17.length ≤ c0_17) (h : headgateref18_EncodeAsk.f k a0_0 a0_1 a0_2 a0_3 a0_4 a0_5 a0_6 a0_7 a0_8 a0_9 a0_10 a0_11 a0_12 a0_13 a0_14 a0_15 a0_16 l0_17 = some (r1, r2)) :
    Calls Try.prog 17 #[.agg #[.int .i64 a0_0, .int .i64 a0_1, .int .i64 a0_2, .int .i64 a0_3, .int .i64 a0_4, .int .i64 a0_5, .int .i64 a0_6, .int .i64 a0_7, .int .i64 a0_8, .int .i64 a0_9, .int .i64 a0_10, .int .i64 a0_11, .bool a0_12, .int .i64 a0_13, .int .i64 a0_14, .int .i64 a0_15, .int .i64 a0_16, .slice A0_17 l0_17.length c0_17]] w fun e w' => e = .returned (.tuple #[.string r1, .int .i64 r2]) ∧ Below w.heap.size w w' := by
 have hu43 := Try.underlying43
 have hu41 := Try.underlying41
 have HR0_17 := Aside0.mk hr0_17
 have HC0_17 := Aside0.mk hc0_17
 clear hr0_17 hc0_17
 have HB := Aside0.mk (Below.refl w.heap.size w)
 have H : ((headgateref18_MayAsk.f k a0_0 a0_1 a0_2 a0_3 a0_4 a0_5 a0_6 a0_7 a0_8 a0_9 a0_10 a0_11 a0_12 a0_13 a0_14 a0_15 a0_16 l0_17).bind fun t445 => (if t445 = true then ((headgateref01_Put.f k a0_0).bind fun t446 => ((headgateref01_Put.f k a0_1).bind fun t447 => (if t446.size + t447.size ≤ 9223372036854775807 then ((headgateref18_which.f k a0_0).bind fun t448 => ((headgateref18_list.f a0_0 a0_1 a0_2 a0_3 a0_4 a0_5 a0_6 a0_7 a0_8 a0_9 a0_10 a0_11 a0_12 a0_13 a0_14 a0_15 a0_16 l0_17).bind fun t451 => (headgateref18_EncodeAsk.l0 k (t446 ++ t447) t448 t451 0 a0_0 a0_1 a0_2 a0_3 a0_4 a0_5 a0_6 a0_7 a0_8 a0_9 a0_10 a0_11 a0_12 a0_13 a0_14 a0_15 a0_16 l0_17))) else (none)))) else (some ((⟨#[]⟩ : ByteArray), 1)))) = some (r1, r2) := h
 clear h
 replace H := Option.bind_eq_some_iff.mp H
 obtain ⟨t445, A20, H⟩ := H
 try dsimp only at H
 have A2 := Aside0.mk A20
 clear A20
 by_cases c3 : t445 = true
 ·subst c3
  rw [if_pos rfl] at H
  replace H := Option.bind_eq_some_iff.mp H
  obtain ⟨t446, A40, H⟩ := H
  try dsimp only at H
  have A4 := Aside0.mk A40
  clear A40
  replace H := Option.bind_eq_some_iff.mp H
  obtain ⟨t447, A50, H⟩ := H
  try dsimp only at H
  have A5 := Aside0.mk A50
  clear A50
  by_cases c6 : t446.size + t447.size ≤ 9223372036854775807
  ·rw [if_pos c6] at H
   have c6b0 := eq_true c6
   have c6b1 : decide (t446.size + t447.size ≤ 9223372036854775807) = true := decide_eq_true c6
   try have c6b2 : (9223372036854775807 < t446.size + t447.size) = False := eq_false (Nat.not_lt.2 c6)
   replace H := Option.bind_eq_some_iff.mp H
   obtain ⟨t448, A70, H⟩ := H
   try dsimp only at H
   have A7 := Aside0.mk A70
   clear A70
   replace H := Option.bind_eq_some_iff.mp H
   obtain ⟨t451, A80, H⟩ := H
   try dsimp only at H
   have A8 := Aside0.mk A80
   clear A80
   have H' := Aside0.mk H
   clear H
   go_enter Try.func17, Try.ntmps17
   try go_wp2_with (first | ((with_reducible refine gate_dst (N := 1) rfl ?_); refine box_event ?hg (N := 1) ?hd (cs := #[.int .i64 a0_0, .int .i64 a0_1, .int .i64 a0_2, .int .i64 a0_3, .int .i64 a0_4, .int .i64 a0_5, .int .i64 a0_6, .int .i64 a0_7, .int .i64 a0_8, .int .i64 a0_9, .int .i64 a0_10, .int .i64 a0_11, .bool a0_12, .int .i64 a0_13, .int .i64 a0_14, .int .i64 a0_15, .int .i64 a0_16, .slice A0_17 l0_17.length c0_17]) (t := 43) ?hr ?_; (case hd => rfl); (case hg => rfl); (case hr => first | (go_simp; done) | (go_simp; rfl)); intro gb444 hg w9 hbox hb; have BK444 := Aside0.mk (hbox); have GW444 := Aside0.mk (Zz.ge hg HB.out); have GE444 := Aside0.mk (Zz.ge hg HB.out); replace HB := Aside0.mk (below_step (Zz.i HB.out) hb); clear hb hbox hg; have hcz10 := Zz.c18 BK444.out; have hfz10 := blk_frozen BK444.out) | ((with_reducible refine gate_callee (f := 43) rfl ?_); refine goesL_ (some 11) rfl rfl Try.func43 (by kernel_rfl) rfl #[.agg #[.int .i64 a0_0, .int .i64 a0_1, .int .i64 a0_2, .int .i64 a0_3, .int .i64 a0_4, .int .i64 a0_5, .int .i64 a0_6, .int .i64 a0_7, .int .i64 a0_8, .int .i64 a0_9, .int .i64 a0_10, .int .i64 a0_11, .bool a0_12, .int .i64 a0_13, .int .i64 a0_14, .int .i64 a0_15, .int .i64 a0_16, .slice A0_17 l0_17.length c0_17]] rfl Zz.g ?_; (with_reducible refine (headgateref18_MayAsk.calls k a0_0 a0_1 a0_2 a0_3 a0_4 a0_5 a0_6 a0_7 a0_8 a0_9 a0_10 a0_11 a0_12 a0_13 a0_14 a0_15 a0_16 _ _ l0_17 true _ ?side1 ?side2 A2.out).mono ?_); (case side1 => exact Zz.k (Kd.C_below HR0_17.out HB.out)); (case side2 => exact HC0_17.out); rintro e w11 ⟨rfl, hb⟩; refine ⟨_, rfl, ?_⟩; replace BK444 := Aside0.mk (Zz.bb BK444.out hb); replace HB := Aside0.mk (below_step (Zz.i HB.out) hb); (try clear hb)))
   have n0_ := Aside0.mk (blk_drew BK444.out)
   have n1_ := Aside0.mk (below_drew1 HB.out)
   clear BK444
   clear HB
   have BK444 := n0_
   have HB := n1_
   clear n0_ n1_
   refine start_ (n := 8) (S := fun w' => Zr.B18 gb444 (.int .i64 a0_0) (.int .i64 a0_1) (.int .i64 a0_2) (.int .i64 a0_3) (.int .i64 a0_4) (.int .i64 a0_5) (.int .i64 a0_6) (.int .i64 a0_7) (.int .i64 a0_8) (.int .i64 a0_9) (.int .i64 a0_10) (.int .i64 a0_11) (.bool a0_12) (.int .i64 a0_13) (.int .i64 a0_14) (.int .i64 a0_15) (.int .i64 a0_16) (.slice A0_17 l0_17.length c0_17) w') (ds := []) #[false, false, false, false, false, false, false, false] (by kernel_rfl) rfl rfl (Zz.c18 BK444.out) (fun hHeld => ?_); refine with_tabW headgateref18_EncodeAsk.tab3 headgateref18_EncodeAsk.bits3 (fun HT_ HW_ => ?_)
   generalize w11.drew = w12 at BK444 HB hHeld ⊢
   refine Zr.pu 0 13 HT_.out ?_
   refine Zr.pu 3 16 HT_.out ?_
   refine Zr.ta 1 14 HT_.out HW_.out hHeld ?_
   refine Zr.ta 4 17 HT_.out HW_.out hHeld ?_
   refine one_ (i := 2) (N := some 15) #[true, true, true, true, true, false, false, false] rfl rfl (one_of HT_.out (by kernel_rfl)) (by decide) (fun K hK => ?_)
   refine goes_ Try.func29 (by kernel_rfl) rfl #[.int .i64 a0_0] (by rfl) rfl rfl (by (try simp only [List.map_toArray, List.map_cons, List.map_nil]); first | done | rfl | (simp only [List.length_drop, List.length_take]; rfl)) ?_
   with_reducible refine (headgateref01_Put.calls k a0_0 t446 _ A4.out).mono ?_
   rintro e w13 ⟨rfl, hb⟩
   refine ⟨_, rfl, ?_⟩
   have n0_ := Aside0.mk (Zz.bb BK444.out hb)
   have n1_ := Aside0.mk (below_step (Zz.i HB.out) hb)
   clear BK444
   clear HB
   have BK444 := n0_
   have HB := n1_
   clear n0_ n1_
   (try clear hb)
   (try clear hb2)
   (try clear hk)
   (try clear hi)
   refine hK.out _ _ (Zz.c18 BK444.out) (fun hHeld => ?_)
   clear hK K
   refine norm_ (a' := ?_) ?_ ?_
   rotate_left
   ·show Act.put _ (some 15) _ = _
    simp only [Act.put, List.setIfInBounds_toArray, List.set_cons_zero, List.set_cons_succ, i64_w, i32_w]
    rfl
   refine one_ (i := 5) (N := some 18) #[true, true, true, true, true, true, false, false] rfl rfl (one_of HT_.out (by kernel_rfl)) (by decide) (fun K hK => ?_)
   refine goes_ Try.func29 (by kernel_rfl) rfl #[.int .i64 a0_1] (by rfl) rfl rfl (by (try simp only [List.map_toArray, List.map_cons, List.map_nil]); first | done | rfl | (simp only [List.length_drop, List.length_take]; rfl)) ?_
   with_reducible refine (headgateref01_Put.calls k a0_1 t447 _ A5.out).mono ?_
   rintro e w14 ⟨rfl, hb⟩
   refine ⟨_, rfl, ?_⟩
   have n0_ := Aside0.mk (Zz.bb BK444.out hb)
   have n1_ := Aside0.mk (below_step (Zz.i HB.out) hb)
   clear BK444
   clear HB
   have BK444 := n0_
   have HB := n1_
   clear n0_ n1_
   (try clear hb)
   (try clear hb2)
   (try clear hk)
   (try clear hi)
   refine hK.out _ _ (Zz.c18 BK444.out) (fun hHeld => ?_)
   clear hK K
   refine norm_ (a' := ?_) ?_ ?_
   rotate_left
   ·show Act.put _ (some 18) _ = _
    simp only [Act.put, List.setIfInBounds_toArray, List.set_cons_zero, List.set_cons_succ, i64_w, i32_w]
    rfl
   refine Zr.pu 6 19 HT_.out ?_
   refine Zr.pu 7 4 HT_.out ?_
   refine done_ (done_of HT_.out (by kernel_rfl)) ?_
   have hcz15 := Zz.c18 BK444.out
   have hfz15 := blk_frozen BK444.out
   try go_wp2_with (first | ((with_reducible refine gate_callee (f := 44) rfl ?_); refine goesL_ (some 22) rfl rfl Try.func44 (by kernel_rfl) rfl #[.int .i64 a0_0] rfl Zz.g ?_; (with_reducible refine (headgateref18_which.calls k a0_0 t448 _ A7.out).mono ?_); rintro e w16 ⟨v449, rfl, ho0, hb⟩; refine ⟨_, rfl, ?_⟩; have HO450 := Aside0.mk (Kd.R_lower ho0 (below_size (Zz.i HB.out))); replace BK444 := Aside0.mk (Zz.bb BK444.out hb); replace HB := Aside0.mk (below_step (Zz.i HB.out) hb); (try clear hb); (try clear ho0); have hcz17 := Zz.c18 BK444.out; have hfz17 := blk_frozen BK444.out) | ((with_reducible refine gate_callee (f := 45) rfl ?_); refine goesL_ (some 24) rfl rfl Try.func45 (by kernel_rfl) rfl #[.agg #[.int .i64 a0_0, .int .i64 a0_1, .int .i64 a0_2, .int .i64 a0_3, .int .i64 a0_4, .int .i64 a0_5, .int .i64 a0_6, .int .i64 a0_7, .int .i64 a0_8, .int .i64 a0_9, .int .i64 a0_10, .int .i64 a0_11, .bool a0_12, .int .i64 a0_13, .int .i64 a0_14, .int .i64 a0_15, .int .i64 a0_16, .slice A0_17 l0_17.length c0_17]] rfl Zz.g ?_; (with_reducible refine (headgateref18_list.calls a0_0 a0_1 a0_2 a0_3 a0_4 a0_5 a0_6 a0_7 a0_8 a0_9 a0_10 a0_11 a0_12 a0_13 a0_14 a0_15 a0_16 _ _ l0_17 t451 _ ?side1 ?side2 A8.out).mono ?_); (case side1 => exact Zz.k (Kd.C_below HR0_17.out HB.out)); (case side2 => exact HC0_17.out); rintro e w18 ⟨v452, rfl, ho0, hb⟩; refine ⟨_, rfl, ?_⟩; have HO453 := Aside0.mk (Kd.R_lower (Kd.R_new' ho0 (Kd.R_lt (Zz.r HO450.out))) (below_size (Zz.i HB.out))); replace HO450 := Aside0.mk (Kd.R_elder' (Zz.r HO450.out) (Kd.R_base ho0) hb); replace BK444 := Aside0.mk (Zz.bb BK444.out hb); replace HB := Aside0.mk (below_step (Zz.i HB.out) hb); (try clear hb); (try clear ho0)))
   go_loopg [4, 7] k (fun kq v4 v7 w' => ∃ (x4_1 : ByteArray) (x7_1 : Int), v4 = .string x4_1 ∧ v7 = .int .i64 x7_1 ∧ Aside0 (headgateref18_EncodeAsk.l0 kq x4_1 t448 t451 x7_1 a0_0 a0_1 a0_2 a0_3 a0_4 a0_5 a0_6 a0_7 a0_8 a0_9 a0_10 a0_11 a0_12 a0_13 a0_14 a0_15 a0_16 l0_17 = some (r1, r2)) ∧ Aside0 (kq ≤ k) ∧ Aside0 (Kd.R (Kd.int .i64) 3 w' w.heap.size (fun k_ => some k_ ≠ (v452 : Value).ownBlock) v449 t448) ∧ Aside0 (Kd.R (Kd.int .i64) 3 w' w.heap.size (fun k_ => some k_ ≠ (v449 : Value).ownBlock) v452 t451) ∧ Aside0 (w'.heap[gb444]? = some (.cells #[.int .i64 a0_0, .int .i64 a0_1, .int .i64 a0_2, .int .i64 a0_3, .int .i64 a0_4, .int .i64 a0_5, .int .i64 a0_6, .int .i64 a0_7, .int .i64 a0_8, .int .i64 a0_9, .int .i64 a0_10, .int .i64 a0_11, .bool a0_12, .int .i64 a0_13, .int .i64 a0_14, .int .i64 a0_15, .int .i64 a0_16, (.slice A0_17 l0_17.length c0_17)] 43 (0, 0))) ∧ Aside0 (Below w.heap.size w w'))
   case atStart => exact ⟨(t446 ++ t447), (0), Zz.q, Zz.q, H', ⟨Nat.le_refl _⟩, ⟨by (with_reducible repeat (first | apply Kd.R_alloc | apply Kd.R_drewN | apply Kd.R_drew)); exact Kd.R_mono HO450.out (fun _ hk => hk.2)⟩, ⟨by (with_reducible repeat (first | apply Kd.R_alloc | apply Kd.R_drewN | apply Kd.R_drew)); exact Kd.R_mono HO453.out (fun _ hk => hk.2)⟩, ⟨Zz.p BK444.out⟩, ⟨Zz.i HB.out⟩⟩
   case round =>
    clear H'
    (try clear c1);(try clear c2);(try clear p2);(try clear c3);(try clear c4);(try clear c6);(try clear c6b0);(try clear c6b1);(try clear c6b2);(try clear c17);(try clear hcz10);(try clear hcz15);(try clear hcz17);(try clear hfz10);(try clear hfz15);(try clear hfz17)
    obtain ⟨x4_1, x7_1, rfl, rfl, HA, HK1, HO_5, HO_6, BK444, HB⟩ := hrel
    cases gk with
    | zero => exact absurd HA.out (by simp [headgateref18_EncodeAsk.l0])
    | succ k1 =>
     have H := HA.out
     clear HA
     simp only [headgateref18_EncodeAsk.l0] at H
     by_cases c19 : x7_1 < (t448.length : Int)
     ·rw [if_pos c19] at H
      have c19b0 : decide (x7_1 < (t448.length : Int)) = true := decide_eq_true c19
      clear c19
      by_cases c20 : 0 ≤ x7_1
      ·rw [if_pos c20] at H
       have c20b0 : decide (0 ≤ x7_1) = true := decide_eq_true c20
       clear c20
       by_cases c21 : 0 ≤ (rd t448 x7_1)
       ·rw [if_pos c21] at H
        have c21b0 : decide (0 ≤ (rd t448 x7_1)) = true := decide_eq_true c21
        clear c21
        by_cases c22 : (rd t448 x7_1) < (t451.length : Int)
        ·rw [if_pos c22] at H
         have c22b0 : decide ((rd t448 x7_1) < (t451.length : Int)) = true := decide_eq_true c22
         clear c22
         replace H := Option.bind_eq_some_iff.mp H
         obtain ⟨t456, A230, H⟩ := H
         try dsimp only at H
         have A23 := Aside0.mk A230
         clear A230
         by_cases c24 : x4_1.size + t456.size ≤ 9223372036854775807
         ·rw [if_pos c24] at H
          have c24b0 := eq_true c24
          have c24b1 : decide (x4_1.size + t456.size ≤ 9223372036854775807) = true := decide_eq_true c24
          try have c24b2 : (9223372036854775807 < x4_1.size + t456.size) = False := eq_false (Nat.not_lt.2 c24)
          have H' := Aside0.mk H
          clear H
          obtain ⟨Ao25, co25, eo25⟩ := Kd.R_slice HO_5.out
          subst eo25
          have p454 : 0 ≤ (x7_1 : Int) := of_decide_eq_true (by first | (with_reducible assumption) | assumption)
          have q454 : x7_1 < (t448.length : Int) := of_decide_eq_true (by first | (with_reducible assumption) | assumption)
          obtain ⟨ad454, e454, hx454_0⟩ := Kd.at_int (Kd.R_reads' HO_5.out).2.2 x7_1 p454 q454
          cases e454
          replace p454 := eq_true p454
          replace q454 := eq_true q454
          obtain ⟨Ao26, co26, eo26⟩ := Kd.R_slice HO_6.out
          subst eo26
          have p455 : 0 ≤ ((rd t448 x7_1) : Int) := of_decide_eq_true (by first | (with_reducible assumption) | assumption)
          have q455 : (rd t448 x7_1) < (t451.length : Int) := of_decide_eq_true (by first | (with_reducible assumption) | assumption)
          obtain ⟨ad455, e455, hx455_0⟩ := Kd.at_int (Kd.R_reads' HO_6.out).2.2 (rd t448 x7_1) p455 q455
          cases e455
          replace p455 := eq_true p455
          replace q455 := eq_true q455
          go_wp2_with (first | ((with_reducible refine gate_callee (f := 29) rfl ?_); refine goesL_ (some 39) rfl rfl Try.func29 (by kernel_rfl) rfl #[.int .i64 (rd t451 (rd t448 x7_1))] rfl Zz.g ?_; (with_reducible refine (headgateref01_Put.calls k1 (rd t451 (rd t448 x7_1)) t456 _ A23.out).mono ?_); rintro e w27 ⟨rfl, hb⟩; refine ⟨_, rfl, ?_⟩; replace HO_5 := Aside0.mk (Kd.R_below (Zz.r HO_5.out) hb); replace HO_6 := Aside0.mk (Kd.R_below (Zz.r HO_6.out) hb); replace BK444 := Aside0.mk (Zz.bb BK444.out hb); replace HB := Aside0.mk (below_step (Zz.i HB.out) hb); (try clear hb)))
          go_roundg k1
          case measure => have := HK1.out; omega
          case rel => exact ⟨(x4_1 ++ t456), (wrap64 (x7_1 + 1)), Zz.q, Zz.q, H', ⟨by have := HK1.out; omega⟩, ⟨Zz.r HO_5.out⟩, ⟨Zz.r HO_6.out⟩, ⟨Zz.p BK444.out⟩, ⟨Zz.i HB.out⟩⟩
         rw [if_neg c24] at H
         exact absurd H (by simp)
        rw [if_neg c22] at H
        exact absurd H (by simp)
       rw [if_neg c21] at H
       exact absurd H (by simp)
      rw [if_neg c20] at H
      exact absurd H (by simp)
     rw [if_neg c19] at H
     have c19b0 : decide (x7_1 < (t448.length : Int)) = false := decide_eq_false c19
     clear c19
     by_cases c28 : a0_0 = 3
     ·rw [if_pos c28] at H
      obtain ⟨c28b0, c28b1⟩ := Zr.y c28
      clear c28
      replace H := Option.bind_eq_some_iff.mp H
      obtain ⟨⟨t457, t458⟩, A290, H⟩ := H
      try dsimp only at H
      have A29 := Aside0.mk A290
      clear A290
      replace H := Option.bind_eq_some_iff.mp H
      obtain ⟨t459, A300, H⟩ := H
      try dsimp only at H
      have A30 := Aside0.mk A300
      clear A300
      by_cases c31 : x4_1.size + t459.size ≤ 9223372036854775807
      ·rw [if_pos c31] at H
       have c31b0 := eq_true c31
       have c31b1 : decide (x4_1.size + t459.size ≤ 9223372036854775807) = true := decide_eq_true c31
       try have c31b2 : (9223372036854775807 < x4_1.size + t459.size) = False := eq_false (Nat.not_lt.2 c31)
       simp only [Option.some.injEq, Prod.mk.injEq] at H
       obtain ⟨rfl, rfl⟩ := H
       obtain ⟨Ao32, co32, eo32⟩ := Kd.R_slice HO_5.out
       subst eo32
       have hcz33 := Zz.c18 BK444.out
       have hfz33 := blk_frozen BK444.out
       go_wp2_with (first | ((with_reducible refine gate_callee (f := 46) rfl ?_); refine goesL_ (some 47) rfl rfl Try.func46 (by kernel_rfl) rfl #[.agg #[.int .i64 a0_13, .int .i64 a0_14, .int .i64 a0_15, .int .i64 a0_16, .slice A0_17 l0_17.length c0_17]] rfl Zz.g ?_; (with_reducible refine (headgateref06_Encode.calls k1 a0_13 a0_14 a0_15 a0_16 _ _ l0_17 t457 t458 _ ?side1 ?side2 A29.out).mono ?_); (case side1 => exact Zz.k (Kd.C_below HR0_17.out HB.out)); (case side2 => exact HC0_17.out); rintro e w34 ⟨rfl, hb⟩; refine ⟨_, rfl, ?_⟩; replace HO_5 := Aside0.mk (Kd.R_below (Zz.r HO_5.out) hb); replace HO_6 := Aside0.mk (Kd.R_below (Zz.r HO_6.out) hb); replace BK444 := Aside0.mk (Zz.bb BK444.out hb); replace HB := Aside0.mk (below_step (Zz.i HB.out) hb); (try clear hb)) | ((with_reducible refine gate_callee (f := 47) rfl ?_); refine goesL_ (some 52) rfl rfl Try.func47 (by kernel_rfl) rfl #[.string t457] rfl Zz.g ?_; (with_reducible refine (headgateref01_Text.calls k1 t457 t459 _ A30.out).mono ?_); rintro e w35 ⟨rfl, hb⟩; refine ⟨_, rfl, ?_⟩; replace HO_5 := Aside0.mk (Kd.R_below (Zz.r HO_5.out) hb); replace HO_6 := Aside0.mk (Kd.R_below (Zz.r HO_6.out) hb); replace BK444 := Aside0.mk (Zz.bb BK444.out hb); replace HB := Aside0.mk (below_step (Zz.i HB.out) hb); (try clear hb)))
       go_ret2
       exact ⟨Zr.e, Zz.i HB.out⟩
      rw [if_neg c31] at H
      exact absurd H (by simp)
     rw [if_neg c28] at H
     obtain ⟨c28b0, c28b1⟩ := Zr.n c28
     simp only [Option.some.injEq, Prod.mk.injEq] at H
     obtain ⟨rfl, rfl⟩ := H
     obtain ⟨Ao36, co36, eo36⟩ := Kd.R_slice HO_5.out
     subst eo36
     have hcz37 := Zz.c18 BK444.out
     have hfz37 := blk_frozen BK444.out
     go_wp2
     go_ret2
     exact ⟨Zr.e, Zz.i HB.out⟩
  rw [if_neg c6] at H
  exact absurd H (by simp)
 replace c3 := Bool.eq_false_iff.mpr c3
 subst c3
 rw [if_neg Bool.false_ne_true] at H
 simp only [Option.some.injEq, Prod.mk.injEq] at H
 obtain ⟨rfl, rfl⟩ := H
 go_enter Try.func17, Try.ntmps17
 go_wp2_with (first | ((with_reducible refine gate_dst (N := 1) rfl ?_); refine box_event ?hg (N := 1) ?hd (cs := #[.int .i64 a0_0, .int .i64 a0_1, .int .i64 a0_2, .int .i64 a0_3, .int .i64 a0_4, .int .i64 a0_5, .int .i64 a0_6, .int .i64 a0_7, .int .i64 a0_8, .int .i64 a0_9, .int .i64 a0_10, .int .i64 a0_11, .bool a0_12, .int .i64 a0_13, .int .i64 a0_14, .int .i64 a0_15, .int .i64 a0_16, .slice A0_17 l0_17.length c0_17]) (t := 43) ?hr ?_; (case hd => rfl); (case hg => rfl); (case hr => first | (go_simp; done) | (go_simp; rfl)); intro gb444 hg w38 hbox hb; have BK444 := Aside0.mk (hbox); have GW444 := Aside0.mk (Zz.ge hg HB.out); have GE444 := Aside0.mk (Zz.ge hg HB.out); replace HB := Aside0.mk (below_step (Zz.i HB.out) hb); clear hb hbox hg; have hcz39 := Zz.c18 BK444.out; have hfz39 := blk_frozen BK444.out) | ((with_reducible refine gate_callee (f := 43) rfl ?_); refine goesL_ (some 11) rfl rfl Try.func43 (by kernel_rfl) rfl #[.agg #[.int .i64 a0_0, .int .i64 a0_1, .int .i64 a0_2, .int .i64 a0_3, .int .i64 a0_4, .int .i64 a0_5, .int .i64 a0_6, .int .i64 a0_7, .int .i64 a0_8, .int .i64 a0_9, .int .i64 a0_10, .int .i64 a0_11, .bool a0_12, .int .i64 a0_13, .int .i64 a0_14, .int .i64 a0_15, .int .i64 a0_16, .slice A0_17 l0_17.length c0_17]] rfl Zz.g ?_; (with_reducible refine (headgateref18_MayAsk.calls k a0_0 a0_1 a0_2 a0_3 a0_4 a0_5 a0_6 a0_7 a0_8 a0_9 a0_10 a0_11 a0_12 a0_13 a0_14 a0_15 a0_16 _ _ l0_17 false _ ?side1 ?side2 A2.out).mono ?_); (case side1 => exact Zz.k (Kd.C_below HR0_17.out HB.out)); (case side2 => exact HC0_17.out); rintro e w40 ⟨rfl, hb⟩; refine ⟨_, rfl, ?_⟩; replace BK444 := Aside0.mk (Zz.bb BK444.out hb); replace HB := Aside0.mk (below_step (Zz.i HB.out) hb); (try clear hb)))
 go_ret2
 exact ⟨Zr.e, Zz.i HB.out⟩

end Go.Proofs.Ytikbpjdgihheiaa.P
end
