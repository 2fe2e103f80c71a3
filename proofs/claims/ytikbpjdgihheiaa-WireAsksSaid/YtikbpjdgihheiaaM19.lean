-- Written by wip/mk.py of this repo: the kit's print program, with contracts of our own among its functions (merge.py: Px24 Px40 Px41).
import Derived.Test.YtikbpjdgihheiaaM0
import Derived.Test.YtikbpjdgihheiaaZz
import Derived.Test.YtikbpjdgihheiaaZr
import Derived.Test.YtikbpjdgihheiaaM9
import Derived.Test.YtikbpjdgihheiaaM5
import Derived.Test.YtikbpjdgihheiaaM8
import Derived.Test.YtikbpjdgihheiaaM11
import Derived.Test.YtikbpjdgihheiaaM13
import Derived.Test.YtikbpjdgihheiaaM18
import Derived.Test.YtikbpjdgihheiaaKs
import Derived.Test.YtikbpjdgihheiaaKl
section
namespace Go.Proofs.Ytikbpjdgihheiaa.P
open Go.RowKit Go.Proofs.YtikbpjdgihheiaaW.PrintWords Go.Proofs.YtikbpjdgihheiaaW.PrintLast Go.Proofs.YtikbpjdgihheiaaW.PrintMore
attribute [local go_sem] max2_int min2_int max_two min_two max_three min_three max_four min_four   -- for this text's walks alone
attribute [local go_sem ↓] Kp.LDAsk_in
attribute [local go_sem] Kp.LDAsk_run
set_option linter.unusedVariables false
set_option linter.unusedSimpArgs false

/-! ### headgateref01_Same: function 37 -/
def headgateref01_Same.l0 : Nat → List Int → List Int → Int → Option (Bool)
  | 0, _, _, _ => none
  | k + 1, x0, x1, x5 => if x5 < (x0.length : Int) then (if 0 ≤ x5 then (if x5 < (x1.length : Int) then (if (rd x0 x5) = (rd x1 x5) then (headgateref01_Same.l0 k x0 x1 (wrap64 (x5 + 1))) else (some false)) else (none)) else (none)) else (some true)
def headgateref01_Same.f (k : Nat) (l0 : List Int) (l1 : List Int) : Option (Bool) := if (l0.length : Int) = (l1.length : Int) then (headgateref01_Same.l0 k l0 l1 0) else (some false)
set_option maxHeartbeats 8000000 in
set_option maxRecDepth 100000 in
theorem headgateref01_Same.calls (k : Nat) (A0 : Option Addr) (c0 : Nat) (l0 : List Int) (A1 : Option Addr) (c1 : Nat) (l1 : List Int) (r : Bool) (w : World) (hr0 : Kd.C (Kd.int .i64) w A0 l0.length l0) (hc0 : l0.length ≤ c0) (hr1 : Kd.C (Kd.int .i64) w A1 l1.length l1) (hc1 : l1.length ≤ c1) (h : headgateref01_Same.f k l0 l1 = some r) :
    Calls Try.prog 37 #[.slice A0 l0.length c0, .slice A1 l1.length c1] w fun e w' => e = .returned (.bool r) ∧ Drawn0 w w' := by
 have HR0 := Aside0.mk hr0
 have HC0 := Aside0.mk hc0
 clear hr0 hc0
 have HR1 := Aside0.mk hr1
 have HC1 := Aside0.mk hc1
 clear hr1 hc1
 have H : (if (l0.length : Int) = (l1.length : Int) then (headgateref01_Same.l0 k l0 l1 0) else (some false)) = some r := h
 clear h
 by_cases c3 : (l0.length : Int) = (l1.length : Int)
 ·rw [if_pos c3] at H
  obtain ⟨c3b0, c3b1⟩ := Zr.y c3
  have c3b2 : (l0.length == l1.length) = true := by first | simpa using c3 | (simp at c3 ⊢; omega)
  clear c3
  have H' := Aside0.mk H
  clear H
  go_enter Try.func37, Try.ntmps37
  go_wp2
  repeat (go_quiet (fail); try go_wp2)
  go_loopg [5] k (fun kq v5 w' => ∃ (x5_1 : Int), v5 = .int .i64 x5_1 ∧ Aside0 (headgateref01_Same.l0 kq l0 l1 x5_1 = some r) ∧ Aside0 (kq ≤ k) ∧ Drawn0 w w')
  case atStart => exact ⟨(0), Zz.q, H', ⟨Nat.le_refl _⟩, by repeat (first | exact Drawn0.refl _ | apply Drawn0.step)⟩
  case round =>
   clear H'
   (try clear c1);(try clear p2);(try clear c3);(try clear c3b0);(try clear c3b1);(try clear c3b2)
   obtain ⟨x5_1, rfl, HA, HK1, ⟨m1, rfl⟩⟩ := hrel
   cases gk with
   | zero => exact absurd HA.out (by simp [headgateref01_Same.l0])
   | succ k1 =>
    have H := HA.out
    clear HA
    simp only [headgateref01_Same.l0] at H
    by_cases c4 : x5_1 < (l0.length : Int)
    ·rw [if_pos c4] at H
     have c4b0 : decide (x5_1 < (l0.length : Int)) = true := decide_eq_true c4
     clear c4
     by_cases c5 : 0 ≤ x5_1
     ·rw [if_pos c5] at H
      have c5b0 : decide (0 ≤ x5_1) = true := decide_eq_true c5
      clear c5
      by_cases c6 : x5_1 < (l1.length : Int)
      ·rw [if_pos c6] at H
       have c6b0 : decide (x5_1 < (l1.length : Int)) = true := decide_eq_true c6
       clear c6
       by_cases c7 : (rd l0 x5_1) = (rd l1 x5_1)
       ·rw [if_pos c7] at H
        obtain ⟨c7b0, c7b1⟩ := Zr.y c7
        clear c7
        have H' := Aside0.mk H
        clear H
        have p333 : 0 ≤ (x5_1 : Int) := of_decide_eq_true (by first | (with_reducible assumption) | assumption)
        have q333 : x5_1 < (l0.length : Int) := of_decide_eq_true (by first | (with_reducible assumption) | assumption)
        obtain ⟨ad333, e333, hx333_0⟩ := Kd.at_int HR0.out x5_1 p333 q333
        cases e333
        replace p333 := eq_true p333
        replace q333 := eq_true q333
        have p334 : 0 ≤ (x5_1 : Int) := of_decide_eq_true (by first | (with_reducible assumption) | assumption)
        have q334 : x5_1 < (l1.length : Int) := of_decide_eq_true (by first | (with_reducible assumption) | assumption)
        obtain ⟨ad334, e334, hx334_0⟩ := Kd.at_int HR1.out x5_1 p334 q334
        cases e334
        replace p334 := eq_true p334
        replace q334 := eq_true q334
        go_wp2
        repeat (go_quiet (fail); try go_wp2)
        go_roundg k1
        case measure => have := HK1.out; omega
        case rel => exact ⟨(wrap64 (x5_1 + 1)), Zz.q, H', ⟨by have := HK1.out; omega⟩, by repeat (first | exact Drawn0.refl _ | apply Drawn0.step)⟩
       rw [if_neg c7] at H
       obtain ⟨c7b0, c7b1⟩ := Zr.n c7
       obtain rfl := Option.some.inj H
       have p333 : 0 ≤ (x5_1 : Int) := of_decide_eq_true (by first | (with_reducible assumption) | assumption)
       have q333 : x5_1 < (l0.length : Int) := of_decide_eq_true (by first | (with_reducible assumption) | assumption)
       obtain ⟨ad333, e333, hx333_0⟩ := Kd.at_int HR0.out x5_1 p333 q333
       cases e333
       replace p333 := eq_true p333
       replace q333 := eq_true q333
       have p334 : 0 ≤ (x5_1 : Int) := of_decide_eq_true (by first | (with_reducible assumption) | assumption)
       have q334 : x5_1 < (l1.length : Int) := of_decide_eq_true (by first | (with_reducible assumption) | assumption)
       obtain ⟨ad334, e334, hx334_0⟩ := Kd.at_int HR1.out x5_1 p334 q334
       cases e334
       replace p334 := eq_true p334
       replace q334 := eq_true q334
       go_wp2
       repeat (go_quiet (fail); try go_wp2)
       go_ret
       exact ⟨by first | rfl | (simp; done) | (simp [*]; done), by repeat (first | exact Drawn0.refl _ | apply Drawn0.step)⟩
      rw [if_neg c6] at H
      exact absurd H (by simp)
     rw [if_neg c5] at H
     exact absurd H (by simp)
    rw [if_neg c4] at H
    have c4b0 : decide (x5_1 < (l0.length : Int)) = false := decide_eq_false c4
    clear c4
    obtain rfl := Option.some.inj H
    go_wp2
    repeat (go_quiet (fail); try go_wp2)
    go_ret
    exact ⟨by first | rfl | (simp; done) | (simp [*]; done), by repeat (first | exact Drawn0.refl _ | apply Drawn0.step)⟩
 rw [if_neg c3] at H
 obtain ⟨c3b0, c3b1⟩ := Zr.n c3
 have c3b2 : (l0.length == l1.length) = false := by first | simpa using c3 | (simp at c3 ⊢; omega)
 obtain rfl := Option.some.inj H
 go_enter Try.func37, Try.ntmps37
 go_wp2
 repeat (go_quiet (fail); try go_wp2)
 go_ret
 exact ⟨by first | rfl | (simp; done) | (simp [*]; done), by repeat (first | exact Drawn0.refl _ | apply Drawn0.step)⟩

end Go.Proofs.Ytikbpjdgihheiaa.P
end
section
namespace Go.Proofs.Ytikbpjdgihheiaa.P
open Go.RowKit Go.Proofs.YtikbpjdgihheiaaW.PrintWords Go.Proofs.YtikbpjdgihheiaaW.PrintLast Go.Proofs.YtikbpjdgihheiaaW.PrintMore
attribute [local go_sem] max2_int min2_int max_two min_two max_three min_three max_four min_four   -- for this text's walks alone
attribute [local go_sem ↓] Kp.LDAsk_in
attribute [local go_sem] Kp.LDAsk_run
set_option linter.unusedVariables false
set_option linter.unusedSimpArgs false

/-! ### headgateref18_SameAsk: function 20 -/
def headgateref18_SameAsk.f (k : Nat) (a0_0 : Int) (a0_1 : Int) (a0_2 : Int) (a0_3 : Int) (a0_4 : Int) (a0_5 : Int) (a0_6 : Int) (a0_7 : Int) (a0_8 : Int) (a0_9 : Int) (a0_10 : Int) (a0_11 : Int) (a0_12 : Bool) (a0_13 : Int) (a0_14 : Int) (a0_15 : Int) (a0_16 : Int) (l0_17 : List (S57)) (a1_0 : Int) (a1_1 : Int) (a1_2 : Int) (a1_3 : Int) (a1_4 : Int) (a1_5 : Int) (a1_6 : Int) (a1_7 : Int) (a1_8 : Int) (a1_9 : Int) (a1_10 : Int) (a1_11 : Int) (a1_12 : Bool) (a1_13 : Int) (a1_14 : Int) (a1_15 : Int) (a1_16 : Int) (l1_17 : List (S57)) : Option (Bool) := if a0_0 = a1_0 then (if a0_1 = a1_1 then ((headgateref18_list.f a0_0 a0_1 a0_2 a0_3 a0_4 a0_5 a0_6 a0_7 a0_8 a0_9 a0_10 a0_11 a0_12 a0_13 a0_14 a0_15 a0_16 l0_17).bind fun t624 => ((headgateref18_list.f a1_0 a1_1 a1_2 a1_3 a1_4 a1_5 a1_6 a1_7 a1_8 a1_9 a1_10 a1_11 a1_12 a1_13 a1_14 a1_15 a1_16 l1_17).bind fun t627 => ((headgateref01_Same.f k t624 t627).bind fun t630 => (if t630 = true then ((headgateref06_Same.f k a0_13 a0_14 a0_15 a0_16 l0_17 a1_13 a1_14 a1_15 a1_16 l1_17).bind fun t631 => (some t631)) else (some false))))) else (some false)) else (some false)
def headgateref18_SameAsk.T1 : Bool × List (List Nat × List Nat) := (true, [([], []), ([0], [0]), ([], []), ([2], [2]), ([1, 3], [1, 3]), ([4], [4]), ([5], [5]), ([6, 5], [5, 6]), ([5], [5]), ([8, 5], [5, 8]), ([7, 9, 5], [5, 7, 9]), ([5, 10], [5, 10]), ([11, 5], [11]), ([12], [12]), ([13, 12, 12], [12, 13]), ([12], [12]), ([15, 14, 12], [12, 15]), ([14, 16, 16, 12], [12, 14, 16]), ([12, 17], [12, 17]), ([18, 17], [18]), ([19], [19]), ([20, 19], [19, 20]), ([19], [19]), ([22, 19], [19, 22]), ([21, 23, 19, 19], [19, 21, 23]), ([19, 24], [19, 24]), ([25, 24, 0, 1, 2, 3, 4, 5, 6, 7, 8, 9, 10, 11, 12, 13, 14, 15, 16, 17, 18, 19, 20, 21, 22, 23, 24, 25], [25])])
def headgateref18_SameAsk.B1 : List Nat := [0, 1, 0, 4, 15, 31, 63, 127, 63, 319, 1023, 2047, 4095, 8191, 16383, 8191, 65535, 131071, 262143, 524287, 1048575, 2097151, 1048575, 5242879, 16777215, 33554431, 67108863]
theorem headgateref18_SameAsk.tab1 : rtab .any (opsOf Try.f20 1) = headgateref18_SameAsk.T1 := by kernel_rfl
theorem headgateref18_SameAsk.bits1 : waitsOk headgateref18_SameAsk.T1.2 headgateref18_SameAsk.B1 = true := by kernel_rfl
set_option maxHeartbeats 8000000 in
set_option maxRecDepth 100000 in
theorem headgateref18_SameAsk.calls (k : Nat) (a0_0 : Int) (a0_1 : Int) (a0_2 : Int) (a0_3 : Int) (a0_4 : Int) (a0_5 : Int) (a0_6 : Int) (a0_7 : Int) (a0_8 : Int) (a0_9 : Int) (a0_10 : Int) (a0_11 : Int) (a0_12 : Bool) (a0_13 : Int) (a0_14 : Int) (a0_15 : Int) (a0_16 : Int) (A0_17 : Option Addr) (c0_17 : Nat) (l0_17 : List (S57)) (a1_0 : Int) (a1_1 : Int) (a1_2 : Int) (a1_3 : Int) (a1_4 : Int) (a1_5 : Int) (a1_6 : Int) (a1_7 : Int) (a1_8 : Int) (a1_9 : Int) (a1_10 : Int) (a1_11 : Int) (a1_12 : Bool) (a1_13 : Int) (a1_14 : Int) (a1_15 : Int) (a1_16 : Int) (A1_17 : Option Addr) (c1_17 : Nat) (l1_17 : List (S57)) (r : Bool) (w : World) (hr0_17 : Kd.C k57 w A0_17 l0_17.length l0_17) (hc0_17 : l0_17.length ≤ c0_17) (hr1_17 : Kd.C k57 w A1_17 l1_17.length l1_17) (hc1_17 : l1_17.length ≤ c1_17) (h : headgateref18_SameAsk.f k a0_0 a0_1 a0_2 a0_3 a0_4 a0_5 a0_6 a0_7 a0_8 a0_9 a0_10 a0_11 a0_12 a0_13 a0_14 a0_15 a0_16 l0_17 a1_0 a1_1 a1_2 a1_3 a1_4 a1_5 a1_6 a1_7 a1_8 a1_9 a1_10 a1_11 a1_12 a1_13 a1_14 a1_15 a1_16 l1_17 = some r) (hT_ : r = true) :
    Calls Try.prog 20 #[.agg #[.int .i64 a0_0, .int .i64 a0_1, .int .i64 a0_2, .int .i64 a0_3, .int .i64 a0_4, .int .i64 a0_5, .int .i64 a0_6, .int .i64 a0_7, .int .i64 a0_8, .int .i64 a0_9, .int .i64 a0_10, .int .i64 a0_11, .bool a0_12, .int .i64 a0_13, .int .i64 a0_14, .int .i64 a0_15, .int .i64 a0_16, .slice A0_17 l0_17.length c0_17], .agg #[.int .i64 a1_0, .int .i64 a1_1, .int .i64 a1_2, .int .i64 a1_3, .int .i64 a1_4, .int .i64 a1_5, .int .i64 a1_6, .int .i64 a1_7, .int .i64 a1_8, .int .i64 a1_9, .int .i64 a1_10, .int .i64 a1_11, .bool a1_12, .int .i64 a1_13, .int .i64 a1_14, .int .i64 a1_15, .int .i64 a1_16, .slice A1_17 l1_17.length c1_17]] w fun e w' => e = .returned (.bool r) ∧ Below w.heap.size w w' := by
 have hu43 := Try.underlying43
 have hu41 := Try.underlying41
 have HR0_17 := Aside0.mk hr0_17
 have HC0_17 := Aside0.mk hc0_17
 clear hr0_17 hc0_17
 have HR1_17 := Aside0.mk hr1_17
 have HC1_17 := Aside0.mk hc1_17
 clear hr1_17 hc1_17
 have HB := Aside0.mk (Below.refl w.heap.size w)
 have H : (if a0_0 = a1_0 then (if a0_1 = a1_1 then ((headgateref18_list.f a0_0 a0_1 a0_2 a0_3 a0_4 a0_5 a0_6 a0_7 a0_8 a0_9 a0_10 a0_11 a0_12 a0_13 a0_14 a0_15 a0_16 l0_17).bind fun t624 => ((headgateref18_list.f a1_0 a1_1 a1_2 a1_3 a1_4 a1_5 a1_6 a1_7 a1_8 a1_9 a1_10 a1_11 a1_12 a1_13 a1_14 a1_15 a1_16 l1_17).bind fun t627 => ((headgateref01_Same.f k t624 t627).bind fun t630 => (if t630 = true then ((headgateref06_Same.f k a0_13 a0_14 a0_15 a0_16 l0_17 a1_13 a1_14 a1_15 a1_16 l1_17).bind fun t631 => (some t631)) else (some false))))) else (some false)) else (some false)) = some r := h
 clear h
 by_cases c3 : a0_0 = a1_0
 ·rw [if_pos c3] at H
  obtain ⟨c3b0, c3b1⟩ := Zr.y c3
  clear c3
  by_cases c4 : a0_1 = a1_1
  ·rw [if_pos c4] at H
   obtain ⟨c4b0, c4b1⟩ := Zr.y c4
   clear c4
   replace H := Option.bind_eq_some_iff.mp H
   obtain ⟨t624, A50, H⟩ := H
   try dsimp only at H
   have A5 := Aside0.mk A50
   clear A50
   replace H := Option.bind_eq_some_iff.mp H
   obtain ⟨t627, A60, H⟩ := H
   try dsimp only at H
   have A6 := Aside0.mk A60
   clear A60
   replace H := Option.bind_eq_some_iff.mp H
   obtain ⟨t630, A70, H⟩ := H
   try dsimp only at H
   have A7 := Aside0.mk A70
   clear A70
   by_cases c8 : t630 = true
   ·subst c8
    rw [if_pos rfl] at H
    replace H := Option.bind_eq_some_iff.mp H
    obtain ⟨t631, A90, H⟩ := H
    try dsimp only at H
    have A9 := Aside0.mk A90
    clear A90
    obtain rfl := Option.some.inj H
    go_enter Try.func20, Try.ntmps20
    try go_wp2_with (first | ((with_reducible refine gate_dst (N := 2) rfl ?_); refine box_event ?hg (N := 2) ?hd (cs := #[.int .i64 a0_0, .int .i64 a0_1, .int .i64 a0_2, .int .i64 a0_3, .int .i64 a0_4, .int .i64 a0_5, .int .i64 a0_6, .int .i64 a0_7, .int .i64 a0_8, .int .i64 a0_9, .int .i64 a0_10, .int .i64 a0_11, .bool a0_12, .int .i64 a0_13, .int .i64 a0_14, .int .i64 a0_15, .int .i64 a0_16, .slice A0_17 l0_17.length c0_17]) (t := 43) ?hr ?_; (case hd => rfl); (case hg => rfl); (case hr => first | (go_simp; done) | (go_simp; rfl)); intro gb622 hg w10 hbox hb; have BK622 := Aside0.mk (hbox); have GW622 := Aside0.mk (Zz.ge hg HB.out); have GE622 := Aside0.mk (Zz.ge hg HB.out); replace HB := Aside0.mk (below_step (Zz.i HB.out) hb); clear hb hbox hg) | ((with_reducible refine gate_dst (N := 3) rfl ?_); refine box_event ?hg (N := 3) ?hd (cs := #[.int .i64 a1_0, .int .i64 a1_1, .int .i64 a1_2, .int .i64 a1_3, .int .i64 a1_4, .int .i64 a1_5, .int .i64 a1_6, .int .i64 a1_7, .int .i64 a1_8, .int .i64 a1_9, .int .i64 a1_10, .int .i64 a1_11, .bool a1_12, .int .i64 a1_13, .int .i64 a1_14, .int .i64 a1_15, .int .i64 a1_16, .slice A1_17 l1_17.length c1_17]) (t := 43) ?hr ?_; (case hd => rfl); (case hg => rfl); (case hr => first | (go_simp; done) | (go_simp; rfl)); intro gb623 hg w11 hbox hb; have BK623 := Aside0.mk (hbox); have GW623 := Aside0.mk (Zz.ge hg HB.out); have GE623 := Aside0.mk (Zz.ge hg HB.out); replace HB := Aside0.mk (below_step (Zz.i HB.out) hb); have NB622_623 := Aside0.mk (Zz.nl hg BK622.out); have NB623_622 := Aside0.mk (Zz.ng hg BK622.out); replace BK622 := Aside0.mk (Zz.bb BK622.out hb); clear hb hbox hg))
    have n0_ := Aside0.mk (blk_drew BK622.out)
    have n1_ := Aside0.mk (blk_drew BK623.out)
    have n2_ := Aside0.mk (below_drew1 HB.out)
    clear BK622
    clear BK623
    clear HB
    have BK622 := n0_
    have BK623 := n1_
    have HB := n2_
    clear n0_ n1_ n2_
    refine start_ (n := 27) (S := fun w' => Zr.B18 gb622 (.int .i64 a0_0) (.int .i64 a0_1) (.int .i64 a0_2) (.int .i64 a0_3) (.int .i64 a0_4) (.int .i64 a0_5) (.int .i64 a0_6) (.int .i64 a0_7) (.int .i64 a0_8) (.int .i64 a0_9) (.int .i64 a0_10) (.int .i64 a0_11) (.bool a0_12) (.int .i64 a0_13) (.int .i64 a0_14) (.int .i64 a0_15) (.int .i64 a0_16) (.slice A0_17 l0_17.length c0_17) w' ∧ Zr.B18 gb623 (.int .i64 a1_0) (.int .i64 a1_1) (.int .i64 a1_2) (.int .i64 a1_3) (.int .i64 a1_4) (.int .i64 a1_5) (.int .i64 a1_6) (.int .i64 a1_7) (.int .i64 a1_8) (.int .i64 a1_9) (.int .i64 a1_10) (.int .i64 a1_11) (.bool a1_12) (.int .i64 a1_13) (.int .i64 a1_14) (.int .i64 a1_15) (.int .i64 a1_16) (.slice A1_17 l1_17.length c1_17) w') (ds := []) #[false, false, false, false, false, false, false, false, false, false, false, false, false, false, false, false, false, false, false, false, false, false, false, false, false, false, false] (by kernel_rfl) rfl rfl ⟨Zz.c18 BK622.out, Zz.c18 BK623.out⟩ (fun hHeld => ?_); refine with_tabW headgateref18_SameAsk.tab1 headgateref18_SameAsk.bits1 (fun HT_ HW_ => ?_)
    generalize w11.drew = w12 at BK622 BK623 HB hHeld ⊢
    refine Zr.pu 0 5 HT_.out ?_
    refine Zr.pu 2 7 HT_.out ?_
    refine Zr.ta 1 6 HT_.out HW_.out hHeld ?_
    refine Zr.ta 3 8 HT_.out HW_.out hHeld ?_
    refine Zr.pu 4 9 HT_.out ?_
    refine Zr.pu 5 10 HT_.out ?_
    refine Zr.pu 6 11 HT_.out ?_
    refine Zr.pu 8 13 HT_.out ?_
    refine Zr.ta 7 12 HT_.out HW_.out hHeld ?_
    refine Zr.ta 9 14 HT_.out HW_.out hHeld ?_
    refine Zr.pu 10 15 HT_.out ?_
    refine Zr.pu 11 16 HT_.out ?_
    refine Zr.pu 12 17 HT_.out ?_
    refine Zr.ta 13 18 HT_.out HW_.out hHeld ?_
    refine Zr.ta 15 20 HT_.out HW_.out hHeld ?_
    refine one_ (i := 14) (N := some 19) #[true, true, true, true, true, true, true, true, true, true, true, true, true, true, true, true, false, false, false, false, false, false, false, false, false, false, false] rfl rfl (one_of HT_.out (by kernel_rfl)) (by decide) (fun K hK => ?_)
    refine goes_ Try.func45 (by kernel_rfl) rfl #[.agg #[.int .i64 a0_0, .int .i64 a0_1, .int .i64 a0_2, .int .i64 a0_3, .int .i64 a0_4, .int .i64 a0_5, .int .i64 a0_6, .int .i64 a0_7, .int .i64 a0_8, .int .i64 a0_9, .int .i64 a0_10, .int .i64 a0_11, .bool a0_12, .int .i64 a0_13, .int .i64 a0_14, .int .i64 a0_15, .int .i64 a0_16, .slice A0_17 l0_17.length c0_17]] (by rfl) rfl rfl (by (try simp only [List.map_toArray, List.map_cons, List.map_nil]); first | done | rfl | (simp only [List.length_drop, List.length_take]; rfl)) ?_
    with_reducible refine (headgateref18_list.calls a0_0 a0_1 a0_2 a0_3 a0_4 a0_5 a0_6 a0_7 a0_8 a0_9 a0_10 a0_11 a0_12 a0_13 a0_14 a0_15 a0_16 _ _ l0_17 t624 _ ?side1 ?side2 A5.out).mono ?_
    (case side1 => exact Zz.k (Kd.C_below HR0_17.out HB.out))
    (case side2 => exact HC0_17.out)
    rintro e w13 ⟨v625, rfl, ho0, hb⟩
    refine ⟨_, rfl, ?_⟩
    have n0_ := Aside0.mk (Kd.R_lower ho0 (below_size (Zz.i HB.out)))
    have n1_ := Aside0.mk (Zz.bb BK622.out hb)
    have n2_ := Aside0.mk (Zz.bb BK623.out hb)
    have n3_ := Aside0.mk (below_step (Zz.i HB.out) hb)
    clear BK622
    clear BK623
    clear HB
    have HO626 := n0_
    have BK622 := n1_
    have BK623 := n2_
    have HB := n3_
    clear n0_ n1_ n2_ n3_
    (try clear hb)
    (try clear hb2)
    (try clear hk)
    (try clear hi)
    (try clear ho0)
    refine hK.out _ _ ⟨Zz.c18 BK622.out, Zz.c18 BK623.out⟩ (fun hHeld => ?_)
    clear hK K
    refine norm_ (a' := ?_) ?_ ?_
    rotate_left
    ·show Act.put _ (some 19) _ = _
     simp only [Act.put, List.setIfInBounds_toArray, List.set_cons_zero, List.set_cons_succ, i64_w, i32_w]
     rfl
    refine one_ (i := 16) (N := some 21) #[true, true, true, true, true, true, true, true, true, true, true, true, true, true, true, true, true, false, false, false, false, false, false, false, false, false, false] rfl rfl (one_of HT_.out (by kernel_rfl)) (by decide) (fun K hK => ?_)
    refine goes_ Try.func45 (by kernel_rfl) rfl #[.agg #[.int .i64 a1_0, .int .i64 a1_1, .int .i64 a1_2, .int .i64 a1_3, .int .i64 a1_4, .int .i64 a1_5, .int .i64 a1_6, .int .i64 a1_7, .int .i64 a1_8, .int .i64 a1_9, .int .i64 a1_10, .int .i64 a1_11, .bool a1_12, .int .i64 a1_13, .int .i64 a1_14, .int .i64 a1_15, .int .i64 a1_16, .slice A1_17 l1_17.length c1_17]] (by rfl) rfl rfl (by (try simp only [List.map_toArray, List.map_cons, List.map_nil]); first | done | rfl | (simp only [List.length_drop, List.length_take]; rfl)) ?_
    with_reducible refine (headgateref18_list.calls a1_0 a1_1 a1_2 a1_3 a1_4 a1_5 a1_6 a1_7 a1_8 a1_9 a1_10 a1_11 a1_12 a1_13 a1_14 a1_15 a1_16 _ _ l1_17 t627 _ ?side1 ?side2 A6.out).mono ?_
    (case side1 => exact Zz.k (Kd.C_below HR1_17.out HB.out))
    (case side2 => exact HC1_17.out)
    rintro e w14 ⟨v628, rfl, ho0, hb⟩
    refine ⟨_, rfl, ?_⟩
    have n0_ := Aside0.mk (Kd.R_elder' (Zz.r HO626.out) (Kd.R_base ho0) hb)
    have n1_ := Aside0.mk (Kd.R_lower (Kd.R_new' ho0 (Kd.R_lt (Zz.r HO626.out))) (below_size (Zz.i HB.out)))
    have n2_ := Aside0.mk (Zz.bb BK622.out hb)
    have n3_ := Aside0.mk (Zz.bb BK623.out hb)
    have n4_ := Aside0.mk (below_step (Zz.i HB.out) hb)
    clear HO626
    clear BK622
    clear BK623
    clear HB
    have HO626 := n0_
    have HO629 := n1_
    have BK622 := n2_
    have BK623 := n3_
    have HB := n4_
    clear n0_ n1_ n2_ n3_ n4_
    (try clear hb)
    (try clear hb2)
    (try clear hk)
    (try clear hi)
    (try clear ho0)
    obtain ⟨Ao15, co15, eo15⟩ := Kd.R_slice HO626.out
    (first | subst eo15 | (injection eo15 with f1_ f2_ f3_; have f4_ := f1_.symm; have f5_ := f3_.symm; clear f1_ f2_ f3_; subst f4_; subst f5_))
    obtain ⟨Ao16, co16, eo16⟩ := Kd.R_slice HO629.out
    (first | subst eo16 | (injection eo16 with f1_ f2_ f3_; have f4_ := f1_.symm; have f5_ := f3_.symm; clear f1_ f2_ f3_; subst f4_; subst f5_))
    refine hK.out _ _ ⟨Zz.c18 BK622.out, Zz.c18 BK623.out⟩ (fun hHeld => ?_)
    clear hK K
    refine norm_ (a' := ?_) ?_ ?_
    rotate_left
    ·show Act.put _ (some 21) _ = _
     simp only [Act.put, List.setIfInBounds_toArray, List.set_cons_zero, List.set_cons_succ, i64_w, i32_w]
     rfl
    refine one_ (i := 17) (N := some 22) #[true, true, true, true, true, true, true, true, true, true, true, true, true, true, true, true, true, true, false, false, false, false, false, false, false, false, false] rfl rfl (one_of HT_.out (by kernel_rfl)) (by decide) (fun K hK => ?_)
    refine goes_ Try.func37 (by kernel_rfl) rfl #[.slice Ao15 t624.length co15, .slice Ao16 t627.length co16] (by rfl) rfl rfl (by (try simp only [List.map_toArray, List.map_cons, List.map_nil]); first | done | rfl | (simp only [List.length_drop, List.length_take]; rfl)) ?_
    with_reducible refine (headgateref01_Same.calls k _ _ t624 _ _ t627 true _ ?side1 ?side2 ?side3 ?side4 A7.out).mono ?_
    (case side1 => repeat (first | exact (Kd.R_reads' HO626.out).2.2 | (with_reducible refine Kd.C_alloc ?_ _) | (with_reducible refine Kd.C_drewN ?_ _) | (with_reducible refine Kd.C_drew ?_)))
    (case side2 => exact (Kd.R_reads' HO626.out).2.1)
    (case side3 => repeat (first | exact (Kd.R_reads' HO629.out).2.2 | (with_reducible refine Kd.C_alloc ?_ _) | (with_reducible refine Kd.C_drewN ?_ _) | (with_reducible refine Kd.C_drew ?_)))
    (case side4 => exact (Kd.R_reads' HO629.out).2.1)
    rintro e w' ⟨rfl, ⟨nd, rfl⟩⟩
    refine ⟨_, rfl, ?_⟩
    refine hK.out _ _ ⟨Zz.c18 BK622.out, Zz.c18 BK623.out⟩ (fun hHeld => ?_)
    clear hK K
    refine norm_ (a' := ?_) ?_ ?_
    rotate_left
    ·show Act.put _ (some 22) _ = _
     simp only [Act.put, List.setIfInBounds_toArray, List.set_cons_zero, List.set_cons_succ, i64_w, i32_w]
     rfl
    refine Zr.pu 18 23 HT_.out ?_
    refine Zr.pu 19 24 HT_.out ?_
    refine Zr.pu 20 25 HT_.out ?_
    refine Zr.pu 22 27 HT_.out ?_
    refine Zr.ta 21 26 HT_.out HW_.out hHeld ?_
    refine Zr.ta 23 28 HT_.out HW_.out hHeld ?_
    refine one_ (i := 24) (N := some 29) #[true, true, true, true, true, true, true, true, true, true, true, true, true, true, true, true, true, true, true, true, true, true, true, true, true, false, false] rfl rfl (one_of HT_.out (by kernel_rfl)) (by decide) (fun K hK => ?_)
    refine goes_ Try.func53 (by kernel_rfl) rfl #[.agg #[.int .i64 a0_13, .int .i64 a0_14, .int .i64 a0_15, .int .i64 a0_16, .slice A0_17 l0_17.length c0_17], .agg #[.int .i64 a1_13, .int .i64 a1_14, .int .i64 a1_15, .int .i64 a1_16, .slice A1_17 l1_17.length c1_17]] (by rfl) rfl rfl (by (try simp only [List.map_toArray, List.map_cons, List.map_nil]); first | done | rfl | (simp only [List.length_drop, List.length_take]; rfl)) ?_
    with_reducible refine (headgateref06_Same.calls k a0_13 a0_14 a0_15 a0_16 _ _ l0_17 a1_13 a1_14 a1_15 a1_16 _ _ l1_17 t631 _ ?side1 ?side2 ?side3 ?side4 A9.out).mono ?_
    (case side1 => exact Zz.k (Kd.C_below HR0_17.out (Zz.i HB.out)))
    (case side2 => exact HC0_17.out)
    (case side3 => exact Zz.k (Kd.C_below HR1_17.out (Zz.i HB.out)))
    (case side4 => exact HC1_17.out)
    rintro e w17 ⟨rfl, hb⟩
    refine ⟨_, rfl, ?_⟩
    have n0_ := Aside0.mk (Kd.R_below (Zz.r HO626.out) hb)
    have n1_ := Aside0.mk (Kd.R_below (Zz.r HO629.out) hb)
    have n2_ := Aside0.mk (Zz.bb BK622.out hb)
    have n3_ := Aside0.mk (Zz.bb BK623.out hb)
    have n4_ := Aside0.mk (below_step (Zz.i HB.out) hb)
    clear HO626
    clear HO629
    clear BK622
    clear BK623
    clear HB
    have HO626 := n0_
    have HO629 := n1_
    have BK622 := n2_
    have BK623 := n3_
    have HB := n4_
    clear n0_ n1_ n2_ n3_ n4_
    (try clear hb)
    (try clear hb2)
    (try clear hk)
    (try clear hi)
    refine hK.out _ _ ⟨Zz.c18 BK622.out, Zz.c18 BK623.out⟩ (fun hHeld => ?_)
    clear hK K
    refine norm_ (a' := ?_) ?_ ?_
    rotate_left
    ·show Act.put _ (some 29) _ = _
     simp only [Act.put, List.setIfInBounds_toArray, List.set_cons_zero, List.set_cons_succ, i64_w, i32_w]
     rfl
    refine Zr.pu 25 30 HT_.out ?_
    refine Zr.pu 26 4 HT_.out ?_
    refine done_ (done_of HT_.out (by kernel_rfl)) ?_
    try go_wp2
    go_ret
    exact ⟨Zr.e, Zz.i HB.out⟩
   replace c8 := Bool.eq_false_iff.mpr c8
   subst c8
   rw [if_neg Bool.false_ne_true] at H
   obtain rfl := Option.some.inj H
   exact absurd hT_ Bool.false_ne_true
  rw [if_neg c4] at H
  obtain ⟨c4b0, c4b1⟩ := Zr.n c4
  obtain rfl := Option.some.inj H
  exact absurd hT_ Bool.false_ne_true
 rw [if_neg c3] at H
 obtain ⟨c3b0, c3b1⟩ := Zr.n c3
 obtain rfl := Option.some.inj H
 exact absurd hT_ Bool.false_ne_true

end Go.Proofs.Ytikbpjdgihheiaa.P
end
section
namespace Go.Proofs.Ytikbpjdgihheiaa.P
open Go.RowKit Go.Proofs.YtikbpjdgihheiaaW.PrintWords Go.Proofs.YtikbpjdgihheiaaW.PrintLast Go.Proofs.YtikbpjdgihheiaaW.PrintMore
attribute [local go_sem] max2_int min2_int max_two min_two max_three min_three max_four min_four   -- for this text's walks alone
attribute [local go_sem ↓] Kp.LDAsk_in Ks.STAsk_in
attribute [local go_sem] Kp.LDAsk_run Ks.STAsk_run
set_option linter.unusedVariables false
set_option linter.unusedSimpArgs false

/-! ### headgatelaw18_WireAsks: function 4 -/
def headgatelaw18_WireAsks.j0 : Nat → ByteArray → Bool → Int → Int → Int → Int → Int → Int → Int → Int → Int → Int → Int → Int → Bool → Int → Int → Int → Int → List (S57) → Option (Bool)
  | 0, _, _, _, _, _, _, _, _, _, _, _, _, _, _, _, _, _, _, _, _ => none
  | k + 1, x1, x21, x633000, x633001, x633002, x633003, x633004, x633005, x633006, x633007, x633008, x633009, x633010, x633011, x633012, x633013, x633014, x633015, x633016, x633017 => if x21 = true then ((headgatelaw18_awake.f k).bind fun t634 => (some t634)) else ((wire_EncodeAsk.f k x633000 x633001 x633002 x633003 x633004 x633005 x633006 x633007 x633008 x633009 x633010 x633011 x633012 x633013 x633014 x633015 x633016 x633017).bind fun bt635 => ((headgateref18_EncodeAsk.f k x633000 x633001 x633002 x633003 x633004 x633005 x633006 x633007 x633008 x633009 x633010 x633011 x633012 x633013 x633014 x633015 x633016 x633017).bind fun bt637 => ((wire_DecodeAsk.f k x1).bind fun bt639 => ((headgateref18_DecodeAsk.f k x1).bind fun bt661 => (if bt635.1.toList = bt637.1.toList then (if bt635.2 = bt637.2 then ((headgateref18_SameAsk.f k bt639.1 bt639.2.1 bt639.2.2.1 bt639.2.2.2.1 bt639.2.2.2.2.1 bt639.2.2.2.2.2.1 bt639.2.2.2.2.2.2.1 bt639.2.2.2.2.2.2.2.1 bt639.2.2.2.2.2.2.2.2.1 bt639.2.2.2.2.2.2.2.2.2.1 bt639.2.2.2.2.2.2.2.2.2.2.1 bt639.2.2.2.2.2.2.2.2.2.2.2.1 bt639.2.2.2.2.2.2.2.2.2.2.2.2.1 bt639.2.2.2.2.2.2.2.2.2.2.2.2.2.1 bt639.2.2.2.2.2.2.2.2.2.2.2.2.2.2.1 bt639.2.2.2.2.2.2.2.2.2.2.2.2.2.2.2.1 bt639.2.2.2.2.2.2.2.2.2.2.2.2.2.2.2.2.1 bt639.2.2.2.2.2.2.2.2.2.2.2.2.2.2.2.2.2.1 bt661.1 bt661.2.1 bt661.2.2.1 bt661.2.2.2.1 bt661.2.2.2.2.1 bt661.2.2.2.2.2.1 bt661.2.2.2.2.2.2.1 bt661.2.2.2.2.2.2.2.1 bt661.2.2.2.2.2.2.2.2.1 bt661.2.2.2.2.2.2.2.2.2.1 bt661.2.2.2.2.2.2.2.2.2.2.1 bt661.2.2.2.2.2.2.2.2.2.2.2.1 bt661.2.2.2.2.2.2.2.2.2.2.2.2.1 bt661.2.2.2.2.2.2.2.2.2.2.2.2.2.1 bt661.2.2.2.2.2.2.2.2.2.2.2.2.2.2.1 bt661.2.2.2.2.2.2.2.2.2.2.2.2.2.2.2.1 bt661.2.2.2.2.2.2.2.2.2.2.2.2.2.2.2.2.1 bt661.2.2.2.2.2.2.2.2.2.2.2.2.2.2.2.2.2.1).bind fun t683 => (if t683 = true then (if bt639.2.2.2.2.2.2.2.2.2.2.2.2.2.2.2.2.2.2 = bt661.2.2.2.2.2.2.2.2.2.2.2.2.2.2.2.2.2.2 then ((headgatelaw18_awake.f k).bind fun t684 => (some t684)) else (some false)) else (some false))) else (some false)) else (some false))))))
def headgatelaw18_WireAsks.f (k : Nat) (a0_0 : Int) (a0_1 : Int) (a0_2 : Int) (a0_3 : Int) (a0_4 : Int) (a0_5 : Int) (a0_6 : Int) (a0_7 : Int) (a0_8 : Int) (a0_9 : Int) (a0_10 : Int) (a0_11 : Int) (a0_12 : Bool) (a0_13 : Int) (a0_14 : Int) (a0_15 : Int) (a0_16 : Int) (l0_17 : List (S57)) (a1 : ByteArray) : Option (Bool) := (headgatelaw06_Light.f k a0_13 a0_14 a0_15 a0_16 l0_17).bind fun t633 => (if t633 = true then (headgatelaw18_WireAsks.j0 k a1 (decide ((a1.size : Int) > 5000)) a0_0 a0_1 a0_2 a0_3 a0_4 a0_5 a0_6 a0_7 a0_8 a0_9 a0_10 a0_11 a0_12 a0_13 a0_14 a0_15 a0_16 l0_17) else (headgatelaw18_WireAsks.j0 k a1 true a0_0 a0_1 a0_2 a0_3 a0_4 a0_5 a0_6 a0_7 a0_8 a0_9 a0_10 a0_11 a0_12 a0_13 a0_14 a0_15 a0_16 l0_17))
set_option maxHeartbeats 8000000 in
set_option maxRecDepth 100000 in
theorem headgatelaw18_WireAsks.calls (k : Nat) (a0_0 : Int) (a0_1 : Int) (a0_2 : Int) (a0_3 : Int) (a0_4 : Int) (a0_5 : Int) (a0_6 : Int) (a0_7 : Int) (a0_8 : Int) (a0_9 : Int) (a0_10 : Int) (a0_11 : Int) (a0_12 : Bool) (a0_13 : Int) (a0_14 : Int) (a0_15 : Int) (a0_16 : Int) (A0_17 : Option Addr) (c0_17 : Nat) (l0_17 : List (S57)) (a1 : ByteArray) (r : Bool) (w : World) (hr0_17 : Kd.C k57 w A0_17 l0_17.length l0_17) (hc0_17 : l0_17.length ≤ c0_17) (h : headgatelaw18_WireAsks.f k a0_0 a0_1 a0_2 a0_3 a0_4 a0_5 a0_6 a0_7 a0_8 a0_9 a0_10 a0_11 a0_12 a0_13 a0_14 a0_15 a0_16 l0_17 a1 = some r) (hT_ : r = true) :
    Calls Try.prog 4 #[.agg #[.int .i64 a0_0, .int .i64 a0_1, .int .i64 a0_2, .int .i64 a0_3, .int .i64 a0_4, .int .i64 a0_5, .int .i64 a0_6, .int .i64 a0_7, .int .i64 a0_8, .int .i64 a0_9, .int .i64 a0_10, .int .i64 a0_11, .bool a0_12, .int .i64 a0_13, .int .i64 a0_14, .int .i64 a0_15, .int .i64 a0_16, .slice A0_17 l0_17.length c0_17], .string a1] w fun e w' => e = .returned (.bool r) ∧ Below w.heap.size w w' := by
 have hu43 := Try.underlying43
 have hu41 := Try.underlying41
 have HR0_17 := Aside0.mk hr0_17
 have HC0_17 := Aside0.mk hc0_17
 clear hr0_17 hc0_17
 have HB := Aside0.mk (Below.refl w.heap.size w)
 have H : ((headgatelaw06_Light.f k a0_13 a0_14 a0_15 a0_16 l0_17).bind fun t633 => (if t633 = true then (headgatelaw18_WireAsks.j0 k a1 (decide ((a1.size : Int) > 5000)) a0_0 a0_1 a0_2 a0_3 a0_4 a0_5 a0_6 a0_7 a0_8 a0_9 a0_10 a0_11 a0_12 a0_13 a0_14 a0_15 a0_16 l0_17) else (headgatelaw18_WireAsks.j0 k a1 true a0_0 a0_1 a0_2 a0_3 a0_4 a0_5 a0_6 a0_7 a0_8 a0_9 a0_10 a0_11 a0_12 a0_13 a0_14 a0_15 a0_16 l0_17))) = some r := h
 clear h
 have HC3 := Aside0.mk H
 clear H
 go_enter Try.func4, Try.ntmps4
 go_upto_region 1 with (first | ((with_reducible refine gate_dst (N := 2) rfl ?_); (try (refine gate_guard (by rfl) ?_; dsimp only)); refine box_event ?hg (N := 2) ?hd (cs := #[.int .i64 a0_0, .int .i64 a0_1, .int .i64 a0_2, .int .i64 a0_3, .int .i64 a0_4, .int .i64 a0_5, .int .i64 a0_6, .int .i64 a0_7, .int .i64 a0_8, .int .i64 a0_9, .int .i64 a0_10, .int .i64 a0_11, .bool a0_12, .int .i64 a0_13, .int .i64 a0_14, .int .i64 a0_15, .int .i64 a0_16, .slice A0_17 l0_17.length c0_17]) (t := 43) ?hr ?_; (case hd => rfl); (case hg => rfl); (case hr => first | (go_simp; done) | (go_simp; rfl)); intro gb632 hg w4 hbox hb; have BK632 := Aside0.mk (hbox); have GW632 := Aside0.mk (Zz.ge hg HB.out); have GE632 := Aside0.mk (Zz.ge hg HB.out); replace HB := Aside0.mk (below_step (Zz.i HB.out) hb); clear hb hbox hg))
 (try simp only [Act.put, List.setIfInBounds_toArray, List.set_cons_zero, List.set_cons_succ])
 go_cut [21] (fun v21 wc => ∃ (kq : Nat) (x21_2 : Bool), v21 = .bool x21_2 ∧ Aside0 (headgatelaw18_WireAsks.j0 kq a1 x21_2 a0_0 a0_1 a0_2 a0_3 a0_4 a0_5 a0_6 a0_7 a0_8 a0_9 a0_10 a0_11 a0_12 a0_13 a0_14 a0_15 a0_16 l0_17 = some r) ∧ Aside0 (kq ≤ k) ∧ Aside0 (wc.heap[gb632]? = some (.cells #[.int .i64 a0_0, .int .i64 a0_1, .int .i64 a0_2, .int .i64 a0_3, .int .i64 a0_4, .int .i64 a0_5, .int .i64 a0_6, .int .i64 a0_7, .int .i64 a0_8, .int .i64 a0_9, .int .i64 a0_10, .int .i64 a0_11, .bool a0_12, .int .i64 a0_13, .int .i64 a0_14, .int .i64 a0_15, .int .i64 a0_16, (.slice A0_17 l0_17.length c0_17)] 43 (0, 0))) ∧ Aside0 (Below w.heap.size w wc))
 case first =>
  have H := HC3.out
  clear HC3
  replace H := Option.bind_eq_some_iff.mp H
  obtain ⟨t633, A50, H⟩ := H
  try dsimp only at H
  have A5 := Aside0.mk A50
  clear A50
  by_cases c6 : t633 = true
  ·subst c6
   rw [if_pos rfl] at H
   have H' := Aside0.mk H
   clear H
   have hcz7 := Zz.c18 BK632.out
   have hfz7 := blk_frozen BK632.out
   go_wp2_with (first | ((with_reducible refine gate_callee (f := 15) rfl ?_); refine goesL_ (some 15) rfl rfl Try.func15 (by kernel_rfl) rfl #[.agg #[.int .i64 a0_13, .int .i64 a0_14, .int .i64 a0_15, .int .i64 a0_16, .slice A0_17 l0_17.length c0_17]] rfl Zz.g ?_; (with_reducible refine (headgatelaw06_Light.calls k a0_13 a0_14 a0_15 a0_16 _ _ l0_17 true _ ?side1 ?side2 A5.out).mono ?_); (case side1 => exact Zz.k (Kd.C_below HR0_17.out HB.out)); (case side2 => exact HC0_17.out); rintro e w8 ⟨rfl, hb⟩; refine ⟨_, rfl, ?_⟩; replace BK632 := Aside0.mk (Zz.bb BK632.out hb); replace HB := Aside0.mk (below_step (Zz.i HB.out) hb); (try clear hb)))
   go_meet
   case rel => exact ⟨_, (decide ((a1.size : Int) > 5000)), Zz.q, H', ⟨by first | omega | exact Nat.le_refl _⟩, ⟨Zz.p BK632.out⟩, ⟨Zz.i HB.out⟩⟩
  replace c6 := Bool.eq_false_iff.mpr c6
  subst c6
  rw [if_neg Bool.false_ne_true] at H
  have H' := Aside0.mk H
  clear H
  have hcz9 := Zz.c18 BK632.out
  have hfz9 := blk_frozen BK632.out
  go_wp2_with (first | ((with_reducible refine gate_callee (f := 15) rfl ?_); refine goesL_ (some 15) rfl rfl Try.func15 (by kernel_rfl) rfl #[.agg #[.int .i64 a0_13, .int .i64 a0_14, .int .i64 a0_15, .int .i64 a0_16, .slice A0_17 l0_17.length c0_17]] rfl Zz.g ?_; (with_reducible refine (headgatelaw06_Light.calls k a0_13 a0_14 a0_15 a0_16 _ _ l0_17 false _ ?side1 ?side2 A5.out).mono ?_); (case side1 => exact Zz.k (Kd.C_below HR0_17.out HB.out)); (case side2 => exact HC0_17.out); rintro e w10 ⟨rfl, hb⟩; refine ⟨_, rfl, ?_⟩; replace BK632 := Aside0.mk (Zz.bb BK632.out hb); replace HB := Aside0.mk (below_step (Zz.i HB.out) hb); (try clear hb)))
  go_meet
  case rel => exact ⟨_, (true), Zz.q, H', ⟨by first | omega | exact Nat.le_refl _⟩, ⟨Zz.p BK632.out⟩, ⟨Zz.i HB.out⟩⟩
 clear HC3
 (try clear c1);(try clear p2);(try clear c4);(try clear c6);(try clear hcz7);(try clear hcz9);(try clear hfz7);(try clear hfz9)
 obtain ⟨kq, x21_2, rfl, HA, HJ2, BK632, HB⟩ := hcut
 cases kq with
 | zero => exact absurd HA.out (by simp [headgatelaw18_WireAsks.j0])
 | succ kj2 =>
  have H := HA.out
  clear HA
  simp only [headgatelaw18_WireAsks.j0] at H
  by_cases c11 : x21_2 = true
  ·subst c11
   rw [if_pos rfl] at H
   replace H := Option.bind_eq_some_iff.mp H
   obtain ⟨t634, A120, H⟩ := H
   try dsimp only at H
   have A12 := Aside0.mk A120
   clear A120
   obtain rfl := Option.some.inj H
   go_wp2_with (first | ((with_reducible refine gate_callee (f := 9) rfl ?_); refine goesL_ (some 22) rfl rfl Try.func9 (by kernel_rfl) rfl #[] rfl Zz.g ?_; (with_reducible refine (headgatelaw18_awake.calls kj2  t634 _ A12.out).mono ?_); rintro e w13 ⟨rfl, hb⟩; refine ⟨_, rfl, ?_⟩; replace BK632 := Aside0.mk (Zz.bb BK632.out hb); replace HB := Aside0.mk (below_step (Zz.i HB.out) hb); (try clear hb)))
   go_ret
   exact ⟨Zr.e, Zz.i HB.out⟩
  replace c11 := Bool.eq_false_iff.mpr c11
  subst c11
  rw [if_neg Bool.false_ne_true] at H
  replace H := Option.bind_eq_some_iff.mp H
  obtain ⟨⟨t635, t636⟩, A140, H⟩ := H
  try dsimp only at H
  have A14 := Aside0.mk A140
  clear A140
  replace H := Option.bind_eq_some_iff.mp H
  obtain ⟨⟨t637, t638⟩, A150, H⟩ := H
  try dsimp only at H
  have A15 := Aside0.mk A150
  clear A150
  replace H := Option.bind_eq_some_iff.mp H
  obtain ⟨⟨t639, t640, t641, t642, t643, t644, t645, t646, t647, t648, t649, t650, t651, t652, t653, t654, t655, t656, t659⟩, A160, H⟩ := H
  try dsimp only at H
  have A16 := Aside0.mk A160
  clear A160
  replace H := Option.bind_eq_some_iff.mp H
  obtain ⟨⟨t661, t662, t663, t664, t665, t666, t667, t668, t669, t670, t671, t672, t673, t674, t675, t676, t677, t678, t681⟩, A170, H⟩ := H
  try dsimp only at H
  have A17 := Aside0.mk A170
  clear A170
  by_cases c18 : t635.toList = t637.toList
  ·rw [if_pos c18] at H
   obtain ⟨c18b0, c18b1⟩ := Zr.y c18
   clear c18
   by_cases c19 : t636 = t638
   ·rw [if_pos c19] at H
    obtain ⟨c19b0, c19b1⟩ := Zr.y c19
    clear c19
    replace H := Option.bind_eq_some_iff.mp H
    obtain ⟨t683, A200, H⟩ := H
    try dsimp only at H
    have A20 := Aside0.mk A200
    clear A200
    by_cases c21 : t683 = true
    ·subst c21
     rw [if_pos rfl] at H
     by_cases c22 : t659 = t681
     ·rw [if_pos c22] at H
      obtain ⟨c22b0, c22b1⟩ := Zr.y c22
      clear c22
      replace H := Option.bind_eq_some_iff.mp H
      obtain ⟨t684, A230, H⟩ := H
      try dsimp only at H
      have A23 := Aside0.mk A230
      clear A230
      obtain rfl := Option.some.inj H
      have hcz24 := Zz.c18 BK632.out
      have hfz24 := blk_frozen BK632.out
      go_wp2_with (first | ((with_reducible refine gate_callee (f := 16) rfl ?_); refine goesL_ (some 25) rfl rfl Try.func16 (by kernel_rfl) rfl #[.agg #[.int .i64 a0_0, .int .i64 a0_1, .int .i64 a0_2, .int .i64 a0_3, .int .i64 a0_4, .int .i64 a0_5, .int .i64 a0_6, .int .i64 a0_7, .int .i64 a0_8, .int .i64 a0_9, .int .i64 a0_10, .int .i64 a0_11, .bool a0_12, .int .i64 a0_13, .int .i64 a0_14, .int .i64 a0_15, .int .i64 a0_16, .slice A0_17 l0_17.length c0_17]] rfl Zz.g ?_; (with_reducible refine (wire_EncodeAsk.calls kj2 a0_0 a0_1 a0_2 a0_3 a0_4 a0_5 a0_6 a0_7 a0_8 a0_9 a0_10 a0_11 a0_12 a0_13 a0_14 a0_15 a0_16 _ _ l0_17 t635 t636 _ ?side1 ?side2 A14.out).mono ?_); (case side1 => exact Zz.k (Kd.C_below HR0_17.out HB.out)); (case side2 => exact HC0_17.out); rintro e w25 ⟨rfl, hb⟩; refine ⟨_, rfl, ?_⟩; replace BK632 := Aside0.mk (Zz.bb BK632.out hb); replace HB := Aside0.mk (below_step (Zz.i HB.out) hb); (try clear hb); have hcz26 := Zz.c18 BK632.out; have hfz26 := blk_frozen BK632.out) | ((with_reducible refine gate_callee (f := 17) rfl ?_); refine goesL_ (some 30) rfl rfl Try.func17 (by kernel_rfl) rfl #[.agg #[.int .i64 a0_0, .int .i64 a0_1, .int .i64 a0_2, .int .i64 a0_3, .int .i64 a0_4, .int .i64 a0_5, .int .i64 a0_6, .int .i64 a0_7, .int .i64 a0_8, .int .i64 a0_9, .int .i64 a0_10, .int .i64 a0_11, .bool a0_12, .int .i64 a0_13, .int .i64 a0_14, .int .i64 a0_15, .int .i64 a0_16, .slice A0_17 l0_17.length c0_17]] rfl Zz.g ?_; (with_reducible refine (headgateref18_EncodeAsk.calls kj2 a0_0 a0_1 a0_2 a0_3 a0_4 a0_5 a0_6 a0_7 a0_8 a0_9 a0_10 a0_11 a0_12 a0_13 a0_14 a0_15 a0_16 _ _ l0_17 t637 t638 _ ?side1 ?side2 A15.out).mono ?_); (case side1 => exact Zz.k (Kd.C_below HR0_17.out HB.out)); (case side2 => exact HC0_17.out); rintro e w27 ⟨rfl, hb⟩; refine ⟨_, rfl, ?_⟩; replace BK632 := Aside0.mk (Zz.bb BK632.out hb); replace HB := Aside0.mk (below_step (Zz.i HB.out) hb); (try clear hb)) | ((with_reducible refine gate_callee (f := 18) rfl ?_); refine goesL_ (some 35) rfl rfl Try.func18 (by kernel_rfl) rfl #[.string a1] rfl Zz.g ?_; (with_reducible refine (wire_DecodeAsk.calls kj2 a1 t639 t640 t641 t642 t643 t644 t645 t646 t647 t648 t649 t650 t651 t652 t653 t654 t655 t656 t659 _ A16.out).mono ?_); rintro e w28 ⟨v657, rfl, ho0, hb⟩; refine ⟨_, rfl, ?_⟩; have HO658 := Aside0.mk (Kd.R_lower ho0 (below_size (Zz.i HB.out))); replace BK632 := Aside0.mk (Zz.bb BK632.out hb); replace HB := Aside0.mk (below_step (Zz.i HB.out) hb); (try clear hb); (try clear ho0)) | ((with_reducible refine gate_dst (N := 9) rfl ?_); (try (refine gate_guard (by rfl) ?_; dsimp only)); refine box_event ?hg (N := 9) ?hd (cs := #[.int .i64 0, .int .i64 0, .int .i64 0, .int .i64 0, .int .i64 0, .int .i64 0, .int .i64 0, .int .i64 0, .int .i64 0, .int .i64 0, .int .i64 0, .int .i64 0, .bool false, .int .i64 0, .int .i64 0, .int .i64 0, .int .i64 0, .slice none 0 0]) (t := 43) ?hr ?_; (case hd => rfl); (case hg => rfl); (case hr => first | (go_simp; done) | (go_simp; rfl)); intro gb660 hg w29 hbox hb; replace HO658 := Aside0.mk (Kd.R_below (Zz.r HO658.out) hb); have BK660 := Aside0.mk (hbox); have GW660 := Aside0.mk (Zz.ge hg HB.out); have GE660 := Aside0.mk (Zz.ge hg HB.out); replace HB := Aside0.mk (below_step (Zz.i HB.out) hb); have NB632_660 := Aside0.mk (Zz.nl hg BK632.out); have NB660_632 := Aside0.mk (Zz.ng hg BK632.out); replace BK632 := Aside0.mk (Zz.bb BK632.out hb); clear hb hbox hg; have hnb30 := NB660_632.out; have hnc30 := NB632_660.out; have hcz31 := Zz.c18 BK660.out; have hfz31 := blk_frozen BK660.out; obtain ⟨Ao32, co32, eo32⟩ := Kd.R_slice HO658.out; subst eo32; have hld_32 := Kl.put BK660.out (.int .i64 t639) (.int .i64 t640) (.int .i64 t641) (.int .i64 t642) (.int .i64 t643) (.int .i64 t644) (.int .i64 t645) (.int .i64 t646) (.int .i64 t647) (.int .i64 t648) (.int .i64 t649) (.int .i64 t650) (.bool t651) (.int .i64 t652) (.int .i64 t653) (.int .i64 t654) (.int .i64 t655) (.slice Ao32 t656.length co32); have hlf_632_32 := Kl.far BK632.out NB632_660.out (.int .i64 t639) (.int .i64 t640) (.int .i64 t641) (.int .i64 t642) (.int .i64 t643) (.int .i64 t644) (.int .i64 t645) (.int .i64 t646) (.int .i64 t647) (.int .i64 t648) (.int .i64 t649) (.int .i64 t650) (.bool t651) (.int .i64 t652) (.int .i64 t653) (.int .i64 t654) (.int .i64 t655) (.slice Ao32 t656.length co32)) | ((with_reducible refine gate_callee (f := 19) rfl ?_); refine goesL_ (some 40) rfl rfl Try.func19 (by kernel_rfl) rfl #[.string a1] rfl Zz.g ?_; (with_reducible refine (headgateref18_DecodeAsk.calls kj2 a1 t661 t662 t663 t664 t665 t666 t667 t668 t669 t670 t671 t672 t673 t674 t675 t676 t677 t678 t681 _ A17.out).mono ?_); rintro e w33 ⟨v679, rfl, ho0, hb⟩; refine ⟨_, rfl, ?_⟩; have n0_ := Aside0.mk (Kd.R_elder' (by (with_reducible repeat (first | apply Kd.R_alloc | apply Kd.R_drewN | apply Kd.R_drew)); exact (Kd.R_mono (Zz.f18 (Kd.R_types HO658.out BK660.out (by decide)) (fun _ hk => hk.2)) (fun _ h_ => h_.1))) (Kd.R_base ho0) hb); have n1_ := Aside0.mk (Kd.R_lower (Kd.R_new' ho0 (Kd.R_lt (by (with_reducible repeat (first | apply Kd.R_alloc | apply Kd.R_drewN | apply Kd.R_drew)); exact (Kd.R_mono (Zz.f18 (Kd.R_types HO658.out BK660.out (by decide)) (fun _ hk => hk.2)) (fun _ h_ => h_.1))))) (below_size (Zz.i HB.out))); have n2_ := Aside0.mk (blk_below (g := gb632) (o := .cells #[.int .i64 a0_0, .int .i64 a0_1, .int .i64 a0_2, .int .i64 a0_3, .int .i64 a0_4, .int .i64 a0_5, .int .i64 a0_6, .int .i64 a0_7, .int .i64 a0_8, .int .i64 a0_9, .int .i64 a0_10, .int .i64 a0_11, .bool a0_12, .int .i64 a0_13, .int .i64 a0_14, .int .i64 a0_15, .int .i64 a0_16, .slice A0_17 l0_17.length c0_17] 43 (0, 0)) (by exact Zz.q18 BK632.out NB632_660.out) hb); have n3_ := Aside0.mk (blk_below (g := gb660) (o := .cells #[.int .i64 t639, .int .i64 t640, .int .i64 t641, .int .i64 t642, .int .i64 t643, .int .i64 t644, .int .i64 t645, .int .i64 t646, .int .i64 t647, .int .i64 t648, .int .i64 t649, .int .i64 t650, .bool t651, .int .i64 t652, .int .i64 t653, .int .i64 t654, .int .i64 t655, .slice Ao32 t656.length co32] 43 (0, 0)) (by (with_reducible repeat (first | refine blk_drewN ?_ _ | refine blk_drew ?_ | refine blk_alloc ?_ _)); exact Zz.u18_0_17 BK660.out) hb); have n4_ := Aside0.mk (below_step (Zz.i HB.out) hb); clear HO658; clear BK632; clear BK660; clear HB; have HO658 := n0_; have HO680 := n1_; have BK632 := n2_; have BK660 := n3_; have HB := n4_; clear n0_ n1_ n2_ n3_ n4_; (try clear hb); (try clear hk); (try clear ho0)) | ((with_reducible refine gate_dst (N := 11) rfl ?_); (try (refine gate_guard (by rfl) ?_; dsimp only)); refine box_event ?hg (N := 11) ?hd (cs := #[.int .i64 0, .int .i64 0, .int .i64 0, .int .i64 0, .int .i64 0, .int .i64 0, .int .i64 0, .int .i64 0, .int .i64 0, .int .i64 0, .int .i64 0, .int .i64 0, .bool false, .int .i64 0, .int .i64 0, .int .i64 0, .int .i64 0, .slice none 0 0]) (t := 43) ?hr ?_; (case hd => rfl); (case hg => rfl); (case hr => first | (go_simp; done) | (go_simp; rfl)); intro gb682 hg w34 hbox hb; replace HO658 := Aside0.mk (Kd.R_below (Zz.r HO658.out) hb); replace HO680 := Aside0.mk (Kd.R_below (Zz.r HO680.out) hb); have BK682 := Aside0.mk (hbox); have GW682 := Aside0.mk (Zz.ge hg HB.out); have GE682 := Aside0.mk (Zz.ge hg HB.out); replace HB := Aside0.mk (below_step (Zz.i HB.out) hb); have NB632_682 := Aside0.mk (Zz.nl hg BK632.out); have NB682_632 := Aside0.mk (Zz.ng hg BK632.out); replace BK632 := Aside0.mk (Zz.bb BK632.out hb); have NB660_682 := Aside0.mk (Zz.nl hg BK660.out); have NB682_660 := Aside0.mk (Zz.ng hg BK660.out); replace BK660 := Aside0.mk (Zz.bb BK660.out hb); clear hb hbox hg; have hnb35 := NB682_632.out; have hnc35 := NB632_682.out; have hnb36 := NB682_660.out; have hnc36 := NB660_682.out; have hcz37 := Zz.c18 BK682.out; have hfz37 := blk_frozen BK682.out; obtain ⟨Ao38, co38, eo38⟩ := Kd.R_slice HO680.out; subst eo38; have hld_38 := Kl.put BK682.out (.int .i64 t661) (.int .i64 t662) (.int .i64 t663) (.int .i64 t664) (.int .i64 t665) (.int .i64 t666) (.int .i64 t667) (.int .i64 t668) (.int .i64 t669) (.int .i64 t670) (.int .i64 t671) (.int .i64 t672) (.bool t673) (.int .i64 t674) (.int .i64 t675) (.int .i64 t676) (.int .i64 t677) (.slice Ao38 t678.length co38); have hlf_632_38 := Kl.far BK632.out NB632_682.out (.int .i64 t661) (.int .i64 t662) (.int .i64 t663) (.int .i64 t664) (.int .i64 t665) (.int .i64 t666) (.int .i64 t667) (.int .i64 t668) (.int .i64 t669) (.int .i64 t670) (.int .i64 t671) (.int .i64 t672) (.bool t673) (.int .i64 t674) (.int .i64 t675) (.int .i64 t676) (.int .i64 t677) (.slice Ao38 t678.length co38); have hlf_660_38 := Kl.far BK660.out NB660_682.out (.int .i64 t661) (.int .i64 t662) (.int .i64 t663) (.int .i64 t664) (.int .i64 t665) (.int .i64 t666) (.int .i64 t667) (.int .i64 t668) (.int .i64 t669) (.int .i64 t670) (.int .i64 t671) (.int .i64 t672) (.bool t673) (.int .i64 t674) (.int .i64 t675) (.int .i64 t676) (.int .i64 t677) (.slice Ao38 t678.length co38); have hcz39 := Zz.c18 BK660.out; have hfz39 := blk_frozen BK660.out) | (go_at_call 20; (with_reducible refine (headgateref18_SameAsk.calls kj2 t639 t640 t641 t642 t643 t644 t645 t646 t647 t648 t649 t650 t651 t652 t653 t654 t655 _ _ t656 t661 t662 t663 t664 t665 t666 t667 t668 t669 t670 t671 t672 t673 t674 t675 t676 t677 _ _ t678 true _ ?side1 ?side2 ?side3 ?side4 A20.out rfl).mono ?_); (case side1 => refine (Kd.R_reads' (e := 57) (base := w.heap.size) (ok := fun k_ => (True ∧ some k_ ≠ (.slice Ao38 t678.length co38 : Value).ownBlock)) (n := t656.length) (c := co32) ?_).2.2; exact (by (with_reducible repeat (first | apply Kd.R_alloc | apply Kd.R_drewN | apply Kd.R_drew)); exact (Kd.R_mono (Zz.f18 (Kd.R_types HO658.out BK682.out (by decide)) (fun _ hk => hk.2)) (fun _ h_ => h_.1)))); (case side2 => exact (Kd.R_reads' HO658.out).2.1); (case side3 => refine (Kd.R_reads' (e := 57) (base := w.heap.size) (ok := fun k_ => (True ∧ some k_ ≠ (.slice Ao32 t656.length co32 : Value).ownBlock)) (n := t678.length) (c := co38) ?_).2.2; exact (by (with_reducible repeat (first | apply Kd.R_alloc | apply Kd.R_drewN | apply Kd.R_drew)); exact (Kd.R_mono (Zz.f18 (Kd.R_types HO680.out BK682.out (by decide)) (fun _ hk => hk.2)) (fun _ h_ => h_.1)))); (case side4 => exact (Kd.R_reads' HO680.out).2.1); rintro e w40 ⟨rfl, hb⟩; have n0_ := Aside0.mk (Kd.R_below (by (with_reducible repeat (first | apply Kd.R_alloc | apply Kd.R_drewN | apply Kd.R_drew)); exact (Kd.R_mono (Zz.f18 (Kd.R_types HO658.out BK682.out (by decide)) (fun _ hk => hk.2)) (fun _ h_ => h_.1))) hb); have n1_ := Aside0.mk (Kd.R_below (by (with_reducible repeat (first | apply Kd.R_alloc | apply Kd.R_drewN | apply Kd.R_drew)); exact (Kd.R_mono (Zz.f18 (Kd.R_types HO680.out BK682.out (by decide)) (fun _ hk => hk.2)) (fun _ h_ => h_.1))) hb); have n2_ := Aside0.mk (blk_below (g := gb632) (o := .cells #[.int .i64 a0_0, .int .i64 a0_1, .int .i64 a0_2, .int .i64 a0_3, .int .i64 a0_4, .int .i64 a0_5, .int .i64 a0_6, .int .i64 a0_7, .int .i64 a0_8, .int .i64 a0_9, .int .i64 a0_10, .int .i64 a0_11, .bool a0_12, .int .i64 a0_13, .int .i64 a0_14, .int .i64 a0_15, .int .i64 a0_16, .slice A0_17 l0_17.length c0_17] 43 (0, 0)) (by exact Zz.q18 BK632.out NB632_682.out) hb); have n3_ := Aside0.mk (blk_below (g := gb660) (o := .cells #[.int .i64 t639, .int .i64 t640, .int .i64 t641, .int .i64 t642, .int .i64 t643, .int .i64 t644, .int .i64 t645, .int .i64 t646, .int .i64 t647, .int .i64 t648, .int .i64 t649, .int .i64 t650, .bool t651, .int .i64 t652, .int .i64 t653, .int .i64 t654, .int .i64 t655, .slice Ao32 t656.length co32] 43 (0, 0)) (by exact Zz.q18 BK660.out NB660_682.out) hb); have n4_ := Aside0.mk (blk_below (g := gb682) (o := .cells #[.int .i64 t661, .int .i64 t662, .int .i64 t663, .int .i64 t664, .int .i64 t665, .int .i64 t666, .int .i64 t667, .int .i64 t668, .int .i64 t669, .int .i64 t670, .int .i64 t671, .int .i64 t672, .bool t673, .int .i64 t674, .int .i64 t675, .int .i64 t676, .int .i64 t677, .slice Ao38 t678.length co38] 43 (0, 0)) (by (with_reducible repeat (first | refine blk_drewN ?_ _ | refine blk_drew ?_ | refine blk_alloc ?_ _)); exact Zz.u18_0_17 BK682.out) hb); have n5_ := Aside0.mk (below_step (Zz.i HB.out) hb); clear HO658; clear HO680; clear BK632; clear BK660; clear BK682; clear HB; have HO658 := n0_; have HO680 := n1_; have BK632 := n2_; have BK660 := n3_; have BK682 := n4_; have HB := n5_; clear n0_ n1_ n2_ n3_ n4_ n5_; (try clear hb); (try clear hk)) | (go_at_call 9; (with_reducible refine (headgatelaw18_awake.calls kj2  t684 _ A23.out).mono ?_); rintro e w41 ⟨rfl, hb⟩; replace HO658 := Aside0.mk (Kd.R_below (Zz.r HO658.out) hb); replace HO680 := Aside0.mk (Kd.R_below (Zz.r HO680.out) hb); replace BK632 := Aside0.mk (Zz.bb BK632.out hb); replace BK660 := Aside0.mk (Zz.bb BK660.out hb); replace BK682 := Aside0.mk (Zz.bb BK682.out hb); replace HB := Aside0.mk (below_step (Zz.i HB.out) hb); (try clear hb)))
      go_ret
      exact ⟨Zr.e, Zz.i HB.out⟩
     rw [if_neg c22] at H
     obtain ⟨c22b0, c22b1⟩ := Zr.n c22
     obtain rfl := Option.some.inj H
     exact absurd hT_ Bool.false_ne_true
    replace c21 := Bool.eq_false_iff.mpr c21
    subst c21
    rw [if_neg Bool.false_ne_true] at H
    obtain rfl := Option.some.inj H
    exact absurd hT_ Bool.false_ne_true
   rw [if_neg c19] at H
   obtain ⟨c19b0, c19b1⟩ := Zr.n c19
   obtain rfl := Option.some.inj H
   exact absurd hT_ Bool.false_ne_true
  rw [if_neg c18] at H
  obtain ⟨c18b0, c18b1⟩ := Zr.n c18
  obtain rfl := Option.some.inj H
  exact absurd hT_ Bool.false_ne_true

/-- THE ONE PURE STATEMENT of headgatelaw18_WireAsks: yours. -/
def headgatelaw18_WireAsks.Pure : Prop := ∀ (a0_0 : Int) (a0_1 : Int) (a0_2 : Int) (a0_3 : Int) (a0_4 : Int) (a0_5 : Int) (a0_6 : Int) (a0_7 : Int) (a0_8 : Int) (a0_9 : Int) (a0_10 : Int) (a0_11 : Int) (a0_12 : Bool) (a0_13 : Int) (a0_14 : Int) (a0_15 : Int) (a0_16 : Int) (l0_17 : List (S57)) (a1 : ByteArray), ((Lit.int .i64 a0_0).wf = true) → ((Lit.int .i64 a0_1).wf = true) → ((Lit.int .i64 a0_2).wf = true) → ((Lit.int .i64 a0_3).wf = true) → ((Lit.int .i64 a0_4).wf = true) → ((Lit.int .i64 a0_5).wf = true) → ((Lit.int .i64 a0_6).wf = true) → ((Lit.int .i64 a0_7).wf = true) → ((Lit.int .i64 a0_8).wf = true) → ((Lit.int .i64 a0_9).wf = true) → ((Lit.int .i64 a0_10).wf = true) → ((Lit.int .i64 a0_11).wf = true) → ((Lit.int .i64 a0_13).wf = true) → ((Lit.int .i64 a0_14).wf = true) → ((Lit.int .i64 a0_15).wf = true) → ((Lit.int .i64 a0_16).wf = true) → (l0_17.length ≤ 9223372036854775807 ∧ ∀ y_ ∈ l0_17, wf57 y_) → (a1.size ≤ 9223372036854775807) → ∃ k, headgatelaw18_WireAsks.f k a0_0 a0_1 a0_2 a0_3 a0_4 a0_5 a0_6 a0_7 a0_8 a0_9 a0_10 a0_11 a0_12 a0_13 a0_14 a0_15 a0_16 l0_17 a1 = some true
theorem headgatelaw18_WireAsks.walk (P : headgatelaw18_WireAsks.Pure) (a0_0 : Int) (a0_1 : Int) (a0_2 : Int) (a0_3 : Int) (a0_4 : Int) (a0_5 : Int) (a0_6 : Int) (a0_7 : Int) (a0_8 : Int) (a0_9 : Int) (a0_10 : Int) (a0_11 : Int) (a0_12 : Bool) (a0_13 : Int) (a0_14 : Int) (a0_15 : Int) (a0_16 : Int) (A0_17 : Option Addr) (c0_17 : Nat) (l0_17 : List (S57)) (a1 : ByteArray) (w : World) (hr0_17 : Kd.C k57 w A0_17 l0_17.length l0_17) (hc0_17 : l0_17.length ≤ c0_17) (w0_ : (Lit.int .i64 a0_0).wf = true) (w1_ : (Lit.int .i64 a0_1).wf = true) (w2_ : (Lit.int .i64 a0_2).wf = true) (w3_ : (Lit.int .i64 a0_3).wf = true) (w4_ : (Lit.int .i64 a0_4).wf = true) (w5_ : (Lit.int .i64 a0_5).wf = true) (w6_ : (Lit.int .i64 a0_6).wf = true) (w7_ : (Lit.int .i64 a0_7).wf = true) (w8_ : (Lit.int .i64 a0_8).wf = true) (w9_ : (Lit.int .i64 a0_9).wf = true) (w10_ : (Lit.int .i64 a0_10).wf = true) (w11_ : (Lit.int .i64 a0_11).wf = true) (w12_ : (Lit.int .i64 a0_13).wf = true) (w13_ : (Lit.int .i64 a0_14).wf = true) (w14_ : (Lit.int .i64 a0_15).wf = true) (w15_ : (Lit.int .i64 a0_16).wf = true) (w16_ : l0_17.length ≤ 9223372036854775807 ∧ ∀ y_ ∈ l0_17, wf57 y_) (w17_ : a1.size ≤ 9223372036854775807) :
    Calls Try.prog 4 #[.agg #[.int .i64 a0_0, .int .i64 a0_1, .int .i64 a0_2, .int .i64 a0_3, .int .i64 a0_4, .int .i64 a0_5, .int .i64 a0_6, .int .i64 a0_7, .int .i64 a0_8, .int .i64 a0_9, .int .i64 a0_10, .int .i64 a0_11, .bool a0_12, .int .i64 a0_13, .int .i64 a0_14, .int .i64 a0_15, .int .i64 a0_16, .slice A0_17 l0_17.length c0_17], .string a1] w fun e w' => e = .returned (.bool true) ∧ Below w.heap.size w w' := by
 obtain ⟨k, h⟩ := P a0_0 a0_1 a0_2 a0_3 a0_4 a0_5 a0_6 a0_7 a0_8 a0_9 a0_10 a0_11 a0_12 a0_13 a0_14 a0_15 a0_16 l0_17 a1 w0_ w1_ w2_ w3_ w4_ w5_ w6_ w7_ w8_ w9_ w10_ w11_ w12_ w13_ w14_ w15_ w16_ w17_
 refine (headgatelaw18_WireAsks.calls k a0_0 a0_1 a0_2 a0_3 a0_4 a0_5 a0_6 a0_7 a0_8 a0_9 a0_10 a0_11 a0_12 a0_13 a0_14 a0_15 a0_16 _ _ l0_17 a1 true w hr0_17 hc0_17 h rfl).mono ?_
 rintro e w' ⟨rfl, hd⟩
 exact ⟨rfl, hd⟩

end Go.Proofs.Ytikbpjdgihheiaa.P
end
