-- Written by wip/mk.py of this repo: the kit's print program, with contracts of our own among its functions (merge.py: Px4 Px9).
import Derived.Test.YtikbpjdgihheiaaM0
import Derived.Test.YtikbpjdgihheiaaZz
import Derived.Test.YtikbpjdgihheiaaZr
section
namespace Go.Proofs.Ytikbpjdgihheiaa.P
open Go.RowKit Go.Proofs.YtikbpjdgihheiaaW.PrintWords Go.Proofs.YtikbpjdgihheiaaW.PrintLast Go.Proofs.YtikbpjdgihheiaaW.PrintMore
attribute [local go_sem] max2_int min2_int max_two min_two max_three min_three max_four min_four   -- for this text's walks alone
attribute [local go_sem ↓] Kp.LDAsk_in
attribute [local go_sem] Kp.LDAsk_run
set_option linter.unusedVariables false
set_option linter.unusedSimpArgs false

/-! ### varint_PutAll: function 23 -/
def varint_PutAll.f (l0 : List Int) : Option ByteArray := if l0.length ≤ 1099511627776 ∧ ∀ n ∈ l0, Vm.I64 n then some (Vm.bs (l0.flatMap Vm.enc)) else none
theorem varint_PutAll.len (l : List Int) : (l.flatMap Vm.enc).length ≤ 10 * l.length := by
  induction l with
  | nil => simp
  | cons a l ih => have := (Vm.enc_len a).2; simp only [List.flatMap_cons, List.length_append, List.length_cons]; omega
theorem varint_PutAll.snoc (l : List Int) (j : Nat) (h : j < l.length) : (l.take (j + 1)).flatMap Vm.enc = (l.take j).flatMap Vm.enc ++ Vm.enc (rd l (j : Int)) := by
  rw [List.take_succ_eq_append_getElem h, List.flatMap_append]
  simp [rd, List.getD_eq_getElem?_getD, List.getElem?_eq_getElem h]
set_option maxHeartbeats 8000000 in
set_option maxRecDepth 100000 in
theorem varint_PutAll.calls (A0 : Option Addr) (c0 : Nat) (l0 : List Int) (r : ByteArray) (w : World) (hr0 : Kd.C (Kd.int .i64) w A0 l0.length l0) (hc0 : l0.length ≤ c0) (h : varint_PutAll.f l0 = some r) :
    Calls Try.prog 23 #[.slice A0 l0.length c0] w fun e w' => e = .returned (.string r) ∧ Below w.heap.size w w' := by
 unfold varint_PutAll.f at h
 split at h
 case isFalse => cases h
 rename_i hn
 obtain ⟨hlen, hall⟩ := hn
 have HR := Lib.hid (Option.some.inj h)
 have HALL := Lib.hid hall
 have HC := Aside0.mk hr0
 clear h hall hr0
 go_enter Try.func23, Try.ntmps23
 go_wp2
 go_loopw [8] (fun v8 wr => ∃ j : Nat, j ≤ l0.length ∧ v8 = .int .i64 j ∧ Aside0 (Lib.IsBuilder 64 5 w.heap.size w.heap.size (Lib.byteCells ((l0.take j).flatMap Vm.enc)) wr) ∧ Aside0 (Below w.heap.size w wr)) (fun v8 _ => l0.length - (intOf v8).toNat)
 case atStart =>
  exact ⟨0, Nat.zero_le _, rfl, ⟨Lib.fresh_isBuilder _ _ w⟩, ⟨below_alloc (Below.refl _ _) _⟩⟩
 case round =>
  obtain ⟨j, hj, rfl, HI, HB⟩ := hrel
  have hBw := HB.out.size
  have hl := varint_PutAll.len (l0.take j)
  have hlt := List.length_take_le j l0
  by_cases hlt : j < l0.length
  ·obtain ⟨ad, rfl, hcell⟩ := Kd.at_int HC.out (j : Int) (by omega) (by omega)
   replace hcell := (HB.out.cell (World.block_lt_of_cell? w _ hcell)).trans hcell
   rw [Int.toNat_natCast] at hcell
   have hmem : Vm.I64 (rd l0 (j : Int)) := HALL.out _ (by simp [rd, List.getD_eq_getElem?_getD, List.getElem?_eq_getElem hlt])
   have hput : varint_Put.f (rd l0 (j : Int)) = some (Vm.bs (Vm.enc (rd l0 (j : Int)))) := if_pos hmem
   have HP := Lib.hid hput
   have henc := (Vm.enc_len (rd l0 (j : Int))).2
   have hl2 : (Lib.byteCells ((l0.take j).flatMap Vm.enc)).length + (Vm.bs (Vm.enc (rd l0 (j : Int)))).size ≤ 140737488355328 := by simp only [Lib.byteCells, List.length_map, Vm.size_bs]; omega
   have HL2 := Lib.hid hl2
   clear hput hl2
   go_wp2_with (go_at_call 24; refine (varint_Put.calls (rd l0 (j : Int)) _ _ HP.out).mono ?_)
   rintro e w1 ⟨rfl, hb1⟩
   have HI1 := Aside0.mk (Bld.IsBuilder.below HI.out hb1)
   have HB1 := Aside0.mk (below_then HB.out hBw hb1)
   have hsz1 := HB1.out.size
   clear hb1
   go_wp2_with (go_at_call 22; refine (Bld.writeString w.heap.size w.heap.size _ _ _ HI1.out HL2.out hsz1).mono ?_)
   rintro e w2 ⟨rfl, hi2, hb2⟩
   have HB2 := Aside0.mk (HB1.out.trans hb2)
   have HI2 := Aside0.mk hi2
   clear hi2 hb2
   go_wp2
   go_roundw
   case rel =>
    refine ⟨j + 1, by omega, by go_num, ⟨?_⟩, HB2⟩
    rw [varint_PutAll.snoc _ _ hlt, Bld.byteCells_append]
    have := HI2.out
    rw [Bld.strCells_eq, Vm.data_bs] at this
    exact .inr this
   case measure => simp [intOf]; omega
  obtain rfl : j = l0.length := by omega
  go_wp2_with (go_at_call 27; refine (Bld.string w.heap.size w.heap.size _ _ HI.out hBw).mono ?_)
  rintro e w2 ⟨rfl, hb2⟩
  have HB2 := Aside0.mk (HB.out.trans hb2)
  clear hb2
  go_wp2
  go_ret
  refine ⟨?_, HB2.out⟩
  rw [← HR.out]
  rfl

/-! ### varint_PutText: function 41 -/
def varint_PutText.f (a0 : ByteArray) : Option (ByteArray) := (varint_Put.f (a0.size : Int)).bind fun t103 => (if t103.size + a0.size ≤ 9223372036854775807 then (some (t103 ++ a0)) else (none))
set_option maxHeartbeats 8000000 in
set_option maxRecDepth 100000 in
theorem varint_PutText.calls (a0 : ByteArray) (r : ByteArray) (w : World) (h : varint_PutText.f a0 = some r) :
    Calls Try.prog 41 #[.string a0] w fun e w' => e = .returned (.string r) ∧ Below w.heap.size w w' := by
 have HB := Aside0.mk (Below.refl w.heap.size w)
 have H : ((varint_Put.f (a0.size : Int)).bind fun t103 => (if t103.size + a0.size ≤ 9223372036854775807 then (some (t103 ++ a0)) else (none))) = some r := h
 clear h
 replace H := Option.bind_eq_some_iff.mp H
 obtain ⟨t103, A20, H⟩ := H
 try dsimp only at H
 have A2 := Aside0.mk A20
 clear A20
 by_cases c3 : t103.size + a0.size ≤ 9223372036854775807
 ·rw [if_pos c3] at H
  have c3b0 := eq_true c3
  have c3b1 : decide (t103.size + a0.size ≤ 9223372036854775807) = true := decide_eq_true c3
  try have c3b2 : (9223372036854775807 < t103.size + a0.size) = False := eq_false (Nat.not_lt.2 c3)
  obtain rfl := Option.some.inj H
  go_enter Try.func41, Try.ntmps41
  go_wp2_with (first | ((with_reducible refine gate_callee (f := 24) rfl ?_); refine goesL_ (some 5) rfl rfl Try.func24 (by kernel_rfl) rfl #[.int .i64 (a0.size : Int)] rfl Zz.g ?_; (with_reducible refine (varint_Put.calls (a0.size : Int) t103 _ A2.out).mono ?_); rintro e w4 ⟨rfl, hb⟩; refine ⟨_, rfl, ?_⟩; replace HB := Aside0.mk (below_step (Zz.i HB.out) hb); (try clear hb)))
  go_ret
  exact ⟨Zr.e, Zz.i HB.out⟩
 rw [if_neg c3] at H
 exact absurd H (by simp)

/-! ### batch_PutRecord: function 25 -/
def batch_PutRecord.f (a0_0 : Int) (a0_1 : Int) (a0_2 : ByteArray) : Option (ByteArray) := (varint_PutAll.f (([a0_0, a0_1] : List Int))).bind fun t108 => ((varint_PutText.f a0_2).bind fun t109 => (if t108.size + t109.size ≤ 9223372036854775807 then (some (t108 ++ t109)) else (none)))
def batch_PutRecord.T1 : Bool × List (List Nat × List Nat) := (true, [([], []), ([0], [0]), ([], []), ([2], [2]), ([1, 3], [1, 3]), ([4], [4]), ([], []), ([6], [6]), ([7, 5], [7]), ([5, 8], [5, 8]), ([9, 8, 0, 1, 2, 3, 4, 5, 6, 7, 8, 9], [9])])
def batch_PutRecord.B1 : List Nat := [0, 1, 0, 4, 15, 31, 0, 64, 255, 511, 1023]
theorem batch_PutRecord.tab1 : rtab .any (opsOf Try.f25 1) = batch_PutRecord.T1 := by kernel_rfl
theorem batch_PutRecord.bits1 : waitsOk batch_PutRecord.T1.2 batch_PutRecord.B1 = true := by kernel_rfl
set_option maxHeartbeats 8000000 in
set_option maxRecDepth 100000 in
theorem batch_PutRecord.calls (a0_0 : Int) (a0_1 : Int) (a0_2 : ByteArray) (r : ByteArray) (w : World) (h : batch_PutRecord.f a0_0 a0_1 a0_2 = some r) :
    Calls Try.prog 25 #[.agg #[.int .i64 a0_0, .int .i64 a0_1, .string a0_2]] w fun e w' => e = .returned (.string r) ∧ Below w.heap.size w w' := by
 have hu57 := Try.underlying57
 have HB := Aside0.mk (Below.refl w.heap.size w)
 have H : ((varint_PutAll.f (([a0_0, a0_1] : List Int))).bind fun t108 => ((varint_PutText.f a0_2).bind fun t109 => (if t108.size + t109.size ≤ 9223372036854775807 then (some (t108 ++ t109)) else (none)))) = some r := h
 clear h
 obtain ⟨y105, hy105⟩ : ∃ y_ : List Int, y_ = (([a0_0, a0_1] : List Int)) := ⟨_, rfl⟩
 replace H : ((varint_PutAll.f y105).bind fun t108 => ((varint_PutText.f a0_2).bind fun t109 => (if t108.size + t109.size ≤ 9223372036854775807 then (some (t108 ++ t109)) else (none)))) = some r := by first | (rw [hy105]; with_reducible exact H) | (have H2_ := (Option.bind_some _ _).symm.trans H; rw [hy105]; with_reducible exact H2_) | (have H2_ := (Option.bind_some _ _).symm.trans H; with_reducible exact H2_) | with_reducible exact H | (rw [hy105]; exact H) | exact H
 have Ny105 := Aside0.mk hy105
 clear hy105
 replace H := Option.bind_eq_some_iff.mp H
 obtain ⟨t108, A20, H⟩ := H
 try dsimp only at H
 have A2 := Aside0.mk A20
 clear A20
 replace H := Option.bind_eq_some_iff.mp H
 obtain ⟨t109, A30, H⟩ := H
 try dsimp only at H
 have A3 := Aside0.mk A30
 clear A30
 by_cases c4 : t108.size + t109.size ≤ 9223372036854775807
 ·rw [if_pos c4] at H
  have c4b0 := eq_true c4
  have c4b1 : decide (t108.size + t109.size ≤ 9223372036854775807) = true := decide_eq_true c4
  try have c4b2 : (9223372036854775807 < t108.size + t109.size) = False := eq_false (Nat.not_lt.2 c4)
  obtain rfl := Option.some.inj H
  go_enter Try.func25, Try.ntmps25
  try go_wp2_with (first | ((with_reducible refine gate_dst (N := 1) rfl ?_); refine box_event ?hg (N := 1) ?hd (cs := #[.int .i64 a0_0, .int .i64 a0_1, .string a0_2]) (t := 57) ?hr ?_; (case hd => rfl); (case hg => rfl); (case hr => first | (go_simp; done) | (go_simp; rfl)); intro gb104 hg w5 hbox hb; have BK104 := Aside0.mk (hbox); have GW104 := Aside0.mk (Zz.ge hg HB.out); have GE104 := Aside0.mk (Zz.ge hg HB.out); replace HB := Aside0.mk (below_step (Zz.i HB.out) hb); clear hb hbox hg))
  have n0_ := Aside0.mk (blk_drew BK104.out)
  have n1_ := Aside0.mk (below_drew1 HB.out)
  clear BK104
  clear HB
  have BK104 := n0_
  have HB := n1_
  clear n0_ n1_
  refine start_ (n := 11) (S := fun w' => Zr.B3 gb104 (.int .i64 a0_0) (.int .i64 a0_1) (.string a0_2) w') (ds := []) #[false, false, false, false, false, false, false, false, false, false, false] (by kernel_rfl) rfl rfl (Zz.c3 BK104.out) (fun hHeld => ?_); refine with_tabW batch_PutRecord.tab1 batch_PutRecord.bits1 (fun HT_ HW_ => ?_)
  generalize w5.drew = w6 at BK104 HB hHeld ⊢
  refine Zr.pu 0 3 HT_.out ?_
  refine Zr.pu 2 5 HT_.out ?_
  refine Zr.pu 6 9 HT_.out ?_
  refine Zr.ta 1 4 HT_.out HW_.out hHeld ?_
  refine Zr.ta 3 6 HT_.out HW_.out hHeld ?_
  refine Zr.ta 7 10 HT_.out HW_.out hHeld ?_
  refine one_ (i := 4) (N := some 7) #[true, true, true, true, true, false, true, true, false, false, false] rfl rfl (one_of HT_.out (by kernel_rfl)) (by decide) (fun K hK => ?_)
  refine Kd.R_lit_step (Kd.int .i64) _ 3 ?hg (N := 7) ?hd (xs := ([a0_0, a0_1] : List Int)) (inner := [.int .i64 a0_0, .int .i64 a0_1]) (ok := fun _ => True) (okp := fun _ => True) ?hr ?hp (fun _ hk => hk) trivial (Below.refl _ _) (Nat.le_refl _) (by simp) ?_; (case hd => rfl); (case hg => rfl); (case hr => first | (go_simp; done) | (go_simp; rfl)); (case hp => exact (Reps.one (show Kd.M (Kd.int .i64) _ _ _ a0_0 [.int .i64 a0_0] from rfl) (Reps.one (show Kd.M (Kd.int .i64) _ _ _ a0_1 [.int .i64 a0_1] from rfl) (Reps.none _ _))))
  intro v106 w7 ho8 hb hg_ hnew_
  clear hg_ hnew_
  (first | rw [← Ny105.out] at ho8 | (simp only [Int.reduceToNat] at ho8; rw [← Ny105.out] at ho8))
  have n0_ := Aside0.mk (Kd.R_lower ho8 (below_size (Zz.i HB.out)))
  have n1_ := Aside0.mk (Zz.bb BK104.out hb)
  have n2_ := Aside0.mk (below_step (Zz.i HB.out) hb)
  clear BK104
  clear HB
  have HO107 := n0_
  have BK104 := n1_
  have HB := n2_
  clear n0_ n1_ n2_
  clear hb ho8
  obtain ⟨Ao9, co9, eo9⟩ := Kd.R_slice HO107.out
  (first | subst eo9 | (injection eo9 with f1_ f2_ f3_; have f4_ := f1_.symm; have f5_ := f3_.symm; clear f1_ f2_ f3_; subst f4_; subst f5_))
  refine hK.out _ _ (Zz.c3 BK104.out) (fun hHeld => ?_)
  clear hK K
  refine norm_ (a' := ?_) ?_ ?_
  rotate_left
  ·show Act.put _ (some 7) _ = _
   simp only [Act.put, List.setIfInBounds_toArray, List.set_cons_zero, List.set_cons_succ, i64_w, i32_w]
   rfl
  refine one_ (i := 5) (N := some 8) #[true, true, true, true, true, true, true, true, false, false, false] rfl rfl (one_of HT_.out (by kernel_rfl)) (by decide) (fun K hK => ?_)
  refine goes_ Try.func23 (by kernel_rfl) rfl #[.slice Ao9 y105.length co9] (by rfl) rfl rfl (by (try simp only [List.map_toArray, List.map_cons, List.map_nil]); first | done | rfl | (simp only [List.length_drop, List.length_take]; rfl)) ?_
  with_reducible refine (varint_PutAll.calls _ _ y105 t108 _ ?side1 ?side2 A2.out).mono ?_
  (case side1 => repeat (first | exact (Kd.R_reads' HO107.out).2.2 | (with_reducible refine Kd.C_alloc ?_ _) | (with_reducible refine Kd.C_drewN ?_ _) | (with_reducible refine Kd.C_drew ?_)))
  (case side2 => exact (Kd.R_reads' HO107.out).2.1)
  rintro e w10 ⟨rfl, hb⟩
  refine ⟨_, rfl, ?_⟩
  have n0_ := Aside0.mk (Kd.R_below (Zz.r HO107.out) hb)
  have n1_ := Aside0.mk (Zz.bb BK104.out hb)
  have n2_ := Aside0.mk (below_step (Zz.i HB.out) hb)
  clear HO107
  clear BK104
  clear HB
  have HO107 := n0_
  have BK104 := n1_
  have HB := n2_
  clear n0_ n1_ n2_
  (try clear hb)
  (try clear hb2)
  (try clear hk)
  (try clear hi)
  refine hK.out _ _ (Zz.c3 BK104.out) (fun hHeld => ?_)
  clear hK K
  refine norm_ (a' := ?_) ?_ ?_
  rotate_left
  ·show Act.put _ (some 8) _ = _
   simp only [Act.put, List.setIfInBounds_toArray, List.set_cons_zero, List.set_cons_succ, i64_w, i32_w]
   rfl
  refine one_ (i := 8) (N := some 11) #[true, true, true, true, true, true, true, true, true, false, false] rfl rfl (one_of HT_.out (by kernel_rfl)) (by decide) (fun K hK => ?_)
  refine goes_ Try.func41 (by kernel_rfl) rfl #[.string a0_2] (by rfl) rfl rfl (by (try simp only [List.map_toArray, List.map_cons, List.map_nil]); first | done | rfl | (simp only [List.length_drop, List.length_take]; rfl)) ?_
  with_reducible refine (varint_PutText.calls a0_2 t109 _ A3.out).mono ?_
  rintro e w11 ⟨rfl, hb⟩
  refine ⟨_, rfl, ?_⟩
  have n0_ := Aside0.mk (Kd.R_below (Zz.r HO107.out) hb)
  have n1_ := Aside0.mk (Zz.bb BK104.out hb)
  have n2_ := Aside0.mk (below_step (Zz.i HB.out) hb)
  clear HO107
  clear BK104
  clear HB
  have HO107 := n0_
  have BK104 := n1_
  have HB := n2_
  clear n0_ n1_ n2_
  (try clear hb)
  (try clear hb2)
  (try clear hk)
  (try clear hi)
  refine hK.out _ _ (Zz.c3 BK104.out) (fun hHeld => ?_)
  clear hK K
  refine norm_ (a' := ?_) ?_ ?_
  rotate_left
  ·show Act.put _ (some 11) _ = _
   simp only [Act.put, List.setIfInBounds_toArray, List.set_cons_zero, List.set_cons_succ, i64_w, i32_w]
   rfl
  refine Zr.pu 9 12 HT_.out ?_
  refine Zr.pu 10 2 HT_.out ?_
  refine done_ (done_of HT_.out (by kernel_rfl)) ?_
  try go_wp2
  go_ret
  exact ⟨Zr.e, Zz.i HB.out⟩
 rw [if_neg c4] at H
 exact absurd H (by simp)

/-! ### varint_Take: function 33 -/
theorem varint_Take.scope {P : Program} {a : Act} {w : World} {Q : Exit → Act → World → Prop} {c rest : Code} (l : Nat) (J : Act → World → Prop) (μ : Act → World → Nat) (hf : findLabel c l = some (Code.seq Code.skip rest))
    (first : (∀ a w, J a w → rest.wp P (Exit.jump l J Q) a w) → c.wp P (Exit.jump l J Q) a w)
    (pass : ∀ a w, J a w → rest.wp P (Exit.jump l (fun a' w' => J a' w' ∧ μ a' w' < μ a w) Q) a w) : (Code.scope c).wp P Q a w :=
  wp_scope_jumps l J μ hf (first fun a w h => wp_mono (pass a w h) fun e a' w' hq => by
    cases e with
    | goto l' => exact ⟨hq.1, hq.2.1⟩
    | _ => exact hq) fun a w h => wp_seq (wp_skip (pass a w h))
def varint_Take.f (a0 : ByteArray) : Option (Int × ByteArray × Int) := if a0.size ≤ 9223372036854775807 then some (Vm.takeR (Vm.dec a0.data.toList)) else none
/-- What is left behind j bytes that are 128 or more, and come to u. -/
def varint_Take.left (l : List UInt8) (j u : Nat) : Option (Int × List UInt8) :=
  if j = 10 then none else (Vm.dec1 (9 - j) (decide (j = 0)) (l.drop j)).map fun p => (Vm.uz (u + 128 ^ j * p.1), p.2)
theorem varint_Take.left_end (l : List UInt8) (j u : Nat) (h : l.length ≤ j) : varint_Take.left l j u = none := by
  unfold varint_Take.left
  split
  · rfl
  · rw [List.drop_of_length_le h]
    cases 9 - j <;> simp [Vm.dec1]
theorem varint_Take.left_on (l : List UInt8) (j u : Nat) (hj : j < 10) (h : j < l.length) (c : Nat) (hc : (l.getD j 0).toNat = c) (hc1 : 128 ≤ c) (u' : Nat) (hu : j < 9 → u' = u + 128 ^ j * (c % 128)) :
    varint_Take.left l j u = varint_Take.left l (j + 1) u' := by
  have hlt := (l.getD j 0).toNat_lt
  have hd : l.drop j = l.getD j 0 :: l.drop (j + 1) := by
    rw [List.drop_eq_getElem_cons h, List.getD_eq_getElem?_getD, List.getElem?_eq_getElem h]
    rfl
  unfold varint_Take.left
  rw [if_neg (by omega), hd]
  rcases Nat.lt_or_ge j 9 with h9 | h9
  · rw [if_neg (by omega), show 9 - j = (9 - (j + 1)) + 1 by omega]
    simp only [Vm.dec1]
    rw [if_neg (by rw [hc]; omega)]
    simp only [Option.map_map]
    rw [show decide (j + 1 = 0) = false by simp]
    refine congrArg (fun g => Option.map g (Vm.dec1 (9 - (j + 1)) false (l.drop (j + 1)))) ?_
    funext p
    simp only [Function.comp]
    rw [hu h9, Nat.pow_succ, hc, show c % 128 = c - 128 by omega]
    have : u + 128 ^ j * (p.1 * 128 + (c - 128)) = u + 128 ^ j * (c - 128) + 128 ^ j * 128 * p.1 := by
      rw [Nat.mul_add, Nat.mul_assoc, Nat.mul_comm 128 p.1]
      omega
    rw [this]
  · obtain rfl : j = 9 := by omega
    rw [if_pos rfl]
    simp only [Nat.sub_self, Vm.dec1]
    rw [if_neg (by rw [hc]; omega)]
    rfl
theorem varint_Take.left_last (l : List UInt8) (j u : Nat) (hj : j < 10) (h : j < l.length) (c : Nat) (hc : (l.getD j 0).toNat = c) (hc1 : c < 128) :
    varint_Take.left l j u = if (0 < j ∧ c = 0) ∨ (j = 9 ∧ 1 < c) then none else some (Vm.uz (u + 128 ^ j * c), l.drop (j + 1)) := by
  have hd : l.drop j = l.getD j 0 :: l.drop (j + 1) := by
    rw [List.drop_eq_getElem_cons h, List.getD_eq_getElem?_getD, List.getElem?_eq_getElem h]
    rfl
  unfold varint_Take.left
  rw [if_neg (by omega), hd]
  rcases Nat.lt_or_ge j 9 with h9 | h9
  · rw [show 9 - j = (9 - (j + 1)) + 1 by omega]
    simp only [Vm.dec1]
    rw [hc, if_pos hc1]
    by_cases hb : 0 < j ∧ c = 0
    · rw [if_pos (by simp; omega), if_pos (.inl hb)]
      rfl
    · rw [if_neg (by simp; omega), if_neg (by omega)]
      rfl
  · obtain rfl : j = 9 := by omega
    simp only [Nat.sub_self, Vm.dec1]
    rw [hc, if_pos hc1]
    by_cases hb : c = 0 ∨ 1 < c
    · rw [if_pos (by exact hb.imp_left fun hb => ⟨rfl, hb⟩), if_pos (hb.imp (fun hb => ⟨by decide, hb⟩) (fun hb => ⟨trivial, hb⟩))]
      rfl
    · rw [if_neg (by rintro (⟨_, h⟩ | h) <;> omega), if_neg (by omega)]
      rfl
theorem varint_Take.joined (j u c : Nat) (hj : j < 10) (hu : u < 128 ^ j) (hc : c < 256) : ∃ u' : Nat, Go.bits .or .u64 (u : Int) (IntKind.u64.wrap (IntKind.u64.wrap (Go.bits .and .u8 (c : Int) 127) * 2 ^ (7 * j))) = (u' : Int) ∧ ((j < 9 ∨ c ≤ 1) → u' = u + 128 ^ j * (c % 128)) := by
  have h1 : Go.bits .and .u8 (c : Int) 127 = ((c % 128 : Nat) : Int) := by
    have := bits_mask .u8 8 (by decide) wraps_u8 7 (by decide) (c : Int) (by omega) (by omega)
    rw [show (127 : Int) = 2 ^ 7 - 1 by decide, this]
    omega
  have h2 : IntKind.u64.wrap ((c % 128 : Nat) : Int) = ((c % 128 : Nat) : Int) := by rw [IntKind.wrap_u64]; omega
  have h3 : ((2 : Int) ^ (7 * j)) = ((128 ^ j : Nat) : Int) := by
    rw [Int.pow_mul]
    simp
  rw [h1, h2, h3]
  have h4 : ((c % 128 : Nat) : Int) * ((128 ^ j : Nat) : Int) = ((128 ^ j * (c % 128) : Nat) : Int) := by rw [Nat.mul_comm]; exact (Int.natCast_mul _ _).symm
  rw [h4]
  obtain ⟨x, hx⟩ : ∃ x : Nat, x = 128 ^ j * (c % 128) := ⟨_, rfl⟩
  rw [← hx]
  have h5 : IntKind.u64.wrap (x : Int) = ((x % 18446744073709551616 : Nat) : Int) := by rw [IntKind.wrap_u64]; omega
  have hp : 128 ^ j ≤ 128 ^ 9 := Nat.pow_le_pow_right (by decide) (by omega)
  rw [h5, (bits_nat .u64 64 (by decide) (fun n h0 h1 => by rw [IntKind.wrap_u64]; omega) u (x % 18446744073709551616) (by omega) (by omega)).2]
  refine ⟨_, rfl, fun hh => ?_⟩
  have hlt : x < 18446744073709551616 := by
    rcases hh with hh | hh
    · have hp8 : 128 ^ j ≤ 128 ^ 8 := Nat.pow_le_pow_right (by decide) (by omega)
      have : x ≤ 128 ^ 8 * 127 := by rw [hx]; exact Nat.mul_le_mul hp8 (by omega)
      omega
    · have : x ≤ 128 ^ 9 * 1 := by rw [hx]; exact Nat.mul_le_mul hp (by omega)
      omega
  rw [Nat.mod_eq_of_lt hlt, hx]
  have h7 : (128 : Nat) ^ j = 2 ^ (7 * j) := by rw [Nat.pow_mul]
  rw [h7] at hu ⊢
  rw [Nat.or_comm, ← Nat.two_pow_add_eq_or_of_lt hu]
  omega
theorem varint_Take.uz_eq (u : Nat) (hu : u < 18446744073709551616) : Go.bits .xor .i64 (IntKind.i64.wrap ((u : Int) / 2)) (IntKind.i64.wrap (-(IntKind.i64.wrap (Go.bits .and .u64 (u : Int) 1)))) = Vm.uz u := by
  have h1 : Go.bits .and .u64 (u : Int) 1 = ((u % 2 : Nat) : Int) := by
    have := bits_mask .u64 64 (by decide) (fun n h0 h1 => by rw [IntKind.wrap_u64]; omega) 1 (by decide) (u : Int) (by omega) (by omega)
    rw [show (1 : Int) = 2 ^ 1 - 1 by decide, this]
    omega
  have h2 : IntKind.i64.wrap ((u : Int) / 2) = ((u / 2 : Nat) : Int) := by rw [IntKind.wrap_i64]; omega
  have h3 : IntKind.i64.wrap ((u % 2 : Nat) : Int) = ((u % 2 : Nat) : Int) := by rw [IntKind.wrap_i64]; omega
  rw [h1, h2, h3]
  unfold Vm.uz
  by_cases hb : u % 2 = 1
  · rw [if_pos hb, hb]
    have h4 : IntKind.i64.wrap (-((1 : Nat) : Int)) = -1 := by rw [IntKind.wrap_i64]; omega
    rw [h4]
    have e : BitVec.ofInt 64 ((u / 2 : Nat) : Int) ^^^ BitVec.ofInt 64 (-1) = ~~~ BitVec.ofNat 64 (u / 2) := by
      rw [show BitVec.ofInt 64 (-1) = BitVec.allOnes 64 by decide, BitVec.xor_allOnes, BitVec.ofInt_natCast]
    unfold Go.bits
    show IntKind.i64.wrap ((BitVec.ofInt 64 ((u / 2 : Nat) : Int) ^^^ BitVec.ofInt 64 (-1)).toNat : Int) = _
    rw [e, BitVec.toNat_not, BitVec.toNat_ofNat, IntKind.wrap_i64]
    omega
  · rw [if_neg hb, show u % 2 = 0 by omega]
    have h4 : IntKind.i64.wrap (-((0 : Nat) : Int)) = 0 := by rw [IntKind.wrap_i64]; omega
    rw [h4]
    have e : BitVec.ofInt 64 ((u / 2 : Nat) : Int) ^^^ BitVec.ofInt 64 0 = BitVec.ofNat 64 (u / 2) := by rw [BitVec.ofInt_natCast]; simp
    unfold Go.bits
    show IntKind.i64.wrap ((BitVec.ofInt 64 ((u / 2 : Nat) : Int) ^^^ BitVec.ofInt 64 0).toNat : Int) = _
    rw [e, BitVec.toNat_ofNat, IntKind.wrap_i64]
    omega
theorem varint_Take.uz_eq' (u : Nat) (hu : u < 18446744073709551616) : Go.bits .xor .i64 (wrap64 ((u : Int) / 2)) (wrap64 (-(wrap64 (Go.bits .and .u64 (u : Int) 1)))) = Vm.uz u := by
  have h := varint_Take.uz_eq u hu
  rw [IntKind.wrap_i64, IntKind.wrap_i64, IntKind.wrap_i64] at h
  unfold wrap64
  exact h
theorem varint_Take.bad {d : Option (Int × List UInt8)} {r1 : Int} {r2 : ByteArray} {r3 : Int} (h : Vm.takeR d = (r1, r2, r3)) (hd : d = none) : Ending.returned (.tuple #[.int .i64 0, .string ⟨#[]⟩, .int .i64 2]) = .returned (.tuple #[.int .i64 r1, .string r2, .int .i64 r3]) := by
  subst hd
  simp only [Vm.takeR, Prod.mk.injEq] at h
  obtain ⟨rfl, rfl, rfl⟩ := h
  rfl
theorem varint_Take.good {d : Option (Int × List UInt8)} {r1 : Int} {r2 : ByteArray} {r3 n : Int} {s : ByteArray} {l : List UInt8} (h : Vm.takeR d = (r1, r2, r3)) (hd : d = some (n, l)) (hs : s.data.toList = l) : Ending.returned (.tuple #[.int .i64 n, .string s, .int .i64 0]) = .returned (.tuple #[.int .i64 r1, .string r2, .int .i64 r3]) := by
  subst hd
  simp only [Vm.takeR, Prod.mk.injEq] at h
  obtain ⟨rfl, rfl, rfl⟩ := h
  rw [← hs, Vm.bs_data]
set_option maxHeartbeats 8000000 in
set_option maxRecDepth 100000 in
theorem varint_Take.calls (a0 : ByteArray) (r1 : Int) (r2 : ByteArray) (r3 : Int) (w : World) (h : varint_Take.f a0 = some (r1, r2, r3)) :
    Calls Try.prog 33 #[.string a0] w fun e w' => e = .returned (.tuple #[.int .i64 r1, .string r2, .int .i64 r3]) ∧ Drawn0 w w' := by
 unfold varint_Take.f at h
 split at h
 case isFalse => cases h
 rename_i hs
 have hr : Vm.takeR (Vm.dec a0.data.toList) = (r1, r2, r3) := by injection h
 have HR := Lib.hid hr
 have HS := Lib.hid hs
 have hsz : a0.data.toList.length = a0.size := data_length a0
 have HZ := Lib.hid hsz
 clear hr h hs hsz
 go_enter Try.func33, Try.ntmps33
 go_wp2
 refine varint_Take.scope 0 (fun a' w' => w' = w ∧ ∃ (j u : Nat) (x7 x8 x9 x10 x11 x12 x13 x14 x15 x16 x17 x18 x19 x20 x21 x22 x23 x24 x25 x26 x27 x28 x29 x30 : Value), a' = { tmps := #[.string a0, undef, .int .i64 0, .string ⟨#[]⟩, .int .i64 0, .int .u64 (u : Int), .int .i64 (j : Int), x7, x8, x9, x10, x11, x12, x13, x14, x15, x16, x17, x18, x19, x20, x21, x22, x23, x24, x25, x26, x27, x28, x29, x30, undef, undef, undef, undef, undef, undef, undef, undef, undef, undef, undef, undef, undef, undef, undef, undef, undef, undef, undef, undef, undef, undef, undef, undef, undef], defers := [] } ∧ j ≤ 10 ∧ j ≤ a0.size ∧ Aside0 (j < 10 → u < 128 ^ j) ∧ Aside0 (Vm.dec a0.data.toList = varint_Take.left a0.data.toList j u)) (fun a' _ => (10 - intOf (a'.tmps.getD 6 undef)).toNat) rfl ?_ ?_
 ·intro hp
  go_wp2
  go_step3
  rename_i K hK
  exact hK _ _ (hp _ _ ⟨rfl, 0, 0, _, _, _, _, _, _, _, _, _, _, _, _, _, _, _, _, _, _, _, _, _, _, _, _, rfl, by omega, by omega, ⟨fun _ => by simp⟩, ⟨by simp [varint_Take.left, Vm.dec]⟩⟩)
 rintro a w' ⟨rfl, j, u, x7, x8, x9, x10, x11, x12, x13, x14, x15, x16, x17, x18, x19, x20, x21, x22, x23, x24, x25, x26, x27, x28, x29, x30, rfl, hj10, hjs, HU, HD⟩
 by_cases h1 : j = a0.size
 ·have hb := Lib.hid (varint_Take.bad HR.out (HD.out.trans (varint_Take.left_end _ _ _ (by rw [HZ.out]; omega))))
  go_wp2
  simp only [Exit.jump]
  go_ret3
  exact ⟨hb.out, Drawn0.refl _⟩
 have hlt : j < a0.size := by omega
 have h1b : ((j : Int) == (a0.size : Int)) = false := beq_eq_false_iff_ne.mpr (by omega)
 have h1c : (j == a0.size) = false := beq_eq_false_iff_ne.mpr (by omega)
 by_cases h2 : j = 10
 ·have hb := Lib.hid (varint_Take.bad HR.out (HD.out.trans (by subst h2; rfl)))
  go_wp2
  simp only [Exit.jump]
  go_ret3
  exact ⟨hb.out, Drawn0.refl _⟩
 have h2b : ((j : Int) == 10) = false := beq_eq_false_iff_ne.mpr (by omega)
 have hj9 : j ≤ 9 := by omega
 obtain ⟨c, hcq⟩ : ∃ c : Nat, (a0.data.toList.getD j 0).toNat = c := ⟨_, rfl⟩
 have hc256 : c < 256 := by rw [← hcq]; exact (a0.data.toList.getD j 0).toNat_lt
 have hcj : ∀ h : j < a0.size, ((a0[j]'h).toNat : Int) = (c : Int) := fun h => by
  rw [← hcq, List.getD_eq_getElem?_getD, List.getElem?_eq_getElem (by rw [HZ.out]; exact h)]
  rfl
 have HC := Lib.hid hcq
 clear hcq
 obtain ⟨u', hor, hu'⟩ := varint_Take.joined j u c (by omega) (HU.out (by omega)) hc256
 have HU' := Lib.hid hu'
 clear hu' h1 h2
 by_cases h3 : 128 ≤ c
 ·have hon := Lib.hid (varint_Take.left_on _ j u (by omega) (by rw [HZ.out]; exact hlt) c HC.out h3 u' (fun h9 => HU'.out (.inl h9)))
  go_wp2
  go_step3
  refine ⟨rfl, ⟨rfl, j + 1, u', _, _, _, _, _, _, _, _, _, _, _, _, _, _, _, _, _, _, _, _, _, _, _, _, rfl, by omega, by omega, ⟨fun h => ?_⟩, ⟨HD.out.trans hon.out⟩⟩, ?_⟩
  ·have hu := HU.out (by omega)
   rw [HU'.out (.inl (by omega)), Nat.pow_succ]
   have : 128 ^ j * (c % 128) ≤ 128 ^ j * 127 := Nat.mul_le_mul_left _ (by omega)
   omega
  simp [intOf]
  omega
 have hlast := Lib.hid (varint_Take.left_last _ j u (by omega) (by rw [HZ.out]; exact hlt) c HC.out (by omega))
 by_cases h4 : (0 < j ∧ c = 0) ∨ (j = 9 ∧ 1 < c)
 ·have hb := Lib.hid (varint_Take.bad HR.out (HD.out.trans (hlast.out.trans (if_pos h4))))
  clear hlast
  rcases h4 with ⟨h4, h5⟩ | ⟨h4, h5⟩
  ·subst h5
   go_wp2
   simp only [Exit.jump]
   go_ret3
   exact ⟨hb.out, Drawn0.refl _⟩
  subst h4
  have h6 : ((c : Int) == 0) = false := beq_eq_false_iff_ne.mpr (by omega)
  go_wp2
  simp only [Exit.jump]
  go_ret3
  exact ⟨hb.out, Drawn0.refl _⟩
 have hg := Lib.hid (varint_Take.good (s := a0.extract (j + 1) a0.size) HR.out (HD.out.trans (hlast.out.trans (if_neg h4))) (by rw [← HZ.out]; simp [ByteArray.data_extract]; exact List.take_of_length_le (by simp)))
 have hue : u' = u + 128 ^ j * c := by
  have := HU'.out (by omega)
  rwa [show c % 128 = c by omega] at this
 have hul : u' < 18446744073709551616 := by
  have hu := HU.out (by omega)
  rcases Nat.lt_or_ge j 9 with h9 | h9
  ·have hp8 : 128 ^ j ≤ 128 ^ 8 := Nat.pow_le_pow_right (by decide) (by omega)
   have : 128 ^ j * c ≤ 128 ^ 8 * 127 := Nat.mul_le_mul hp8 (by omega)
   omega
  obtain rfl : j = 9 := by omega
  have : 128 ^ 9 * c ≤ 128 ^ 9 * 1 := Nat.mul_le_mul_left _ (by omega)
  omega
 have huz := varint_Take.uz_eq' u' hul
 rw [← hue] at hg
 have hj1 : ((j : Int) + 1).toNat = j + 1 := by omega
 clear hlast hul
 have HUE := Lib.hid hue
 clear hue
 have H4 := Lib.hid h4
 clear h4
 rcases Nat.eq_zero_or_pos j with h5 | h5
 ·have h6 : decide (0 < (j : Int)) = false := decide_eq_false (by omega)
  have h7 : decide (1 < (j : Int) + 1) = false := decide_eq_false (by omega)
  have h8 : ((j : Int) + 1 == 10) = false := beq_eq_false_iff_ne.mpr (by omega)
  have H5 := Lib.hid h5
  clear h5
  go_wp2
  go_quiet (fail)
  go_wp2
  simp only [Exit.jump]
  go_ret3
  exact ⟨hg.out, ⟨⟨_, rfl⟩⟩⟩
 have h6 : ((c : Int) == 0) = false := beq_eq_false_iff_ne.mpr (by have := H4.out; omega)
 by_cases h7 : j = 9
 ·have h8 : decide (1 < (c : Int)) = false := decide_eq_false (by have := H4.out; omega)
  have h9 : ((j : Int) + 1 == 10) = true := beq_iff_eq.mpr (by omega)
  have H7 := Lib.hid h7
  clear h7
  go_wp2
  go_quiet (fail)
  go_wp2
  simp only [Exit.jump]
  go_ret3
  exact ⟨hg.out, ⟨⟨_, rfl⟩⟩⟩
 have h8 : ((j : Int) + 1 == 10) = false := beq_eq_false_iff_ne.mpr (by omega)
 go_wp2
 go_quiet (fail)
 go_wp2
 simp only [Exit.jump]
 go_ret3
 exact ⟨hg.out, ⟨⟨_, rfl⟩⟩⟩

end Go.Proofs.Ytikbpjdgihheiaa.P
end
section
namespace Go.Proofs.Ytikbpjdgihheiaa.P
open Go.RowKit Go.Proofs.YtikbpjdgihheiaaW.PrintWords Go.Proofs.YtikbpjdgihheiaaW.PrintLast Go.Proofs.YtikbpjdgihheiaaW.PrintMore
attribute [local go_sem] max2_int min2_int max_two min_two max_three min_three max_four min_four   -- for this text's walks alone
attribute [local go_sem ↓] Kp.LDAsk_in
attribute [local go_sem] Kp.LDAsk_run
set_option linter.unusedVariables false
set_option linter.unusedSimpArgs false

/-! ### wire_fields: function 38 -/
/-- The places of the numbers that a request of its kind has; false: there is no such kind. -/
def wire_fields.o (a0 : Int) : List Int := if a0 = 1 then [2] else if a0 = 2 then [2, 3, 4] else if a0 = 3 ∨ a0 = 7 then [5] else if a0 = 4 then [2, 3, 6, 7, 5, 8, 9] else if a0 = 5 then [2, 3] else if a0 = 6 then [5, 9, 10] else if a0 = 8 then [11] else if a0 = 9 ∨ a0 = 11 then [6] else if a0 = 10 then [6, 7] else []
def wire_fields.f (a0 : Int) : Option (List Int × Bool) := some (wire_fields.o a0, decide (1 ≤ a0 ∧ a0 ≤ 11))
theorem wire_fields.new (g : Nat) (xs : List Int) (W : World) (base : Nat) (hb : base ≤ W.heap.size) (hm : xs.length ≤ 100) : Kd.R (Kp.fp g) 91 (W.alloc (.cells (xs.map fun o => Value.pointer (some ⟨g, o.toNat, none⟩)).toArray 91)) base (fun _ => True) (.slice (some ⟨W.heap.size, 0, none⟩) xs.length xs.length) xs :=
  Kd.R_of_own (own_lit_of (enc := fun o : Int => Value.pointer (some ⟨g, o.toNat, none⟩)) W base 91 xs hb (by omega)) (fun _ _ => trivial)
set_option maxHeartbeats 8000000 in
set_option maxRecDepth 100000 in
theorem wire_fields.calls (g : Nat) (cs : Array Value) (a0 : Int) (r1 : List Int) (r2 : Bool) (w : World) (hb : w.heap[g]? = some (.cells cs 43 (0, 0)) ∧ cs[0]? = some (.int .i64 a0)) (h : wire_fields.f a0 = some (r1, r2)) :
    Calls Try.prog 38 #[.pointer (some ⟨g, 0, none⟩)] w fun e w' => ∃ v1_ : Value, e = .returned (.tuple #[v1_, .bool r2]) ∧ Kd.R (Kp.fp g) 91 w' w.heap.size (fun _ => True) v1_ r1 ∧ Below w.heap.size w w' := by
 have hu := Try.underlying43
 have hc := (blk_cell hb.1 0).trans hb.2
 unfold wire_fields.f at h
 obtain ⟨rfl, rfl⟩ := Prod.mk.inj (Option.some.inj h)
 clear hb h
 by_cases c1 : a0 = 1
 ·subst c1
  have e1 : wire_fields.o 1 = [2] := rfl
  rw [e1, show decide ((1 : Int) ≤ 1 ∧ (1 : Int) ≤ 11) = true from rfl]
  clear e1
  go_enter Try.func38, Try.ntmps38
  go_wp2_with (fail)
  go_ret2
  exact ⟨_, rfl, by first | exact wire_fields.new g [2] w _ (Nat.le_refl _) (by decide) | exact wire_fields.new g [2] (w.drewN _) _ (Nat.le_refl _) (by decide) | exact wire_fields.new g [2] w.drew _ (Nat.le_refl _) (by decide), by first | exact below_alloc (Below.refl _ _) _ | exact below_alloc (pw_below_drewN (Below.refl _ _) _) _ | exact below_alloc (below_drew1 (Below.refl _ _)) _⟩
 by_cases c2 : a0 = 2
 ·subst c2
  have e1 : wire_fields.o 2 = [2, 3, 4] := rfl
  rw [e1, show decide ((1 : Int) ≤ 2 ∧ (2 : Int) ≤ 11) = true from rfl]
  clear e1
  go_enter Try.func38, Try.ntmps38
  go_wp2_with (fail)
  go_still_tail 9, (by kernel_rfl)
  go_wp2_with (fail)
  go_ret2
  exact ⟨_, rfl, by first | exact wire_fields.new g [2, 3, 4] w _ (Nat.le_refl _) (by decide) | exact wire_fields.new g [2, 3, 4] (w.drewN _) _ (Nat.le_refl _) (by decide) | exact wire_fields.new g [2, 3, 4] w.drew _ (Nat.le_refl _) (by decide), by first | exact below_alloc (Below.refl _ _) _ | exact below_alloc (pw_below_drewN (Below.refl _ _) _) _ | exact below_alloc (below_drew1 (Below.refl _ _)) _⟩
 by_cases c3 : a0 = 3
 ·subst c3
  have e1 : wire_fields.o 3 = [5] := rfl
  rw [e1, show decide ((1 : Int) ≤ 3 ∧ (3 : Int) ≤ 11) = true from rfl]
  clear e1
  go_enter Try.func38, Try.ntmps38
  go_wp2_with (fail)
  go_ret2
  exact ⟨_, rfl, by first | exact wire_fields.new g [5] w _ (Nat.le_refl _) (by decide) | exact wire_fields.new g [5] (w.drewN _) _ (Nat.le_refl _) (by decide) | exact wire_fields.new g [5] w.drew _ (Nat.le_refl _) (by decide), by first | exact below_alloc (Below.refl _ _) _ | exact below_alloc (pw_below_drewN (Below.refl _ _) _) _ | exact below_alloc (below_drew1 (Below.refl _ _)) _⟩
 by_cases c7 : a0 = 7
 ·subst c7
  have e1 : wire_fields.o 7 = [5] := rfl
  rw [e1, show decide ((1 : Int) ≤ 7 ∧ (7 : Int) ≤ 11) = true from rfl]
  clear e1
  go_enter Try.func38, Try.ntmps38
  go_wp2_with (fail)
  go_ret2
  exact ⟨_, rfl, by first | exact wire_fields.new g [5] w _ (Nat.le_refl _) (by decide) | exact wire_fields.new g [5] (w.drewN _) _ (Nat.le_refl _) (by decide) | exact wire_fields.new g [5] w.drew _ (Nat.le_refl _) (by decide), by first | exact below_alloc (Below.refl _ _) _ | exact below_alloc (pw_below_drewN (Below.refl _ _) _) _ | exact below_alloc (below_drew1 (Below.refl _ _)) _⟩
 by_cases c4 : a0 = 4
 ·subst c4
  have e1 : wire_fields.o 4 = [2, 3, 6, 7, 5, 8, 9] := rfl
  rw [e1, show decide ((1 : Int) ≤ 4 ∧ (4 : Int) ≤ 11) = true from rfl]
  clear e1
  go_enter Try.func38, Try.ntmps38
  go_wp2_with (fail)
  go_still_tail 21, (by kernel_rfl)
  go_wp2_with (fail)
  go_ret2
  exact ⟨_, rfl, by first | exact wire_fields.new g [2, 3, 6, 7, 5, 8, 9] w _ (Nat.le_refl _) (by decide) | exact wire_fields.new g [2, 3, 6, 7, 5, 8, 9] (w.drewN _) _ (Nat.le_refl _) (by decide) | exact wire_fields.new g [2, 3, 6, 7, 5, 8, 9] w.drew _ (Nat.le_refl _) (by decide), by first | exact below_alloc (Below.refl _ _) _ | exact below_alloc (pw_below_drewN (Below.refl _ _) _) _ | exact below_alloc (below_drew1 (Below.refl _ _)) _⟩
 by_cases c5 : a0 = 5
 ·subst c5
  have e1 : wire_fields.o 5 = [2, 3] := rfl
  rw [e1, show decide ((1 : Int) ≤ 5 ∧ (5 : Int) ≤ 11) = true from rfl]
  clear e1
  go_enter Try.func38, Try.ntmps38
  go_wp2_with (fail)
  go_still_tail 6, (by kernel_rfl)
  go_wp2_with (fail)
  go_ret2
  exact ⟨_, rfl, by first | exact wire_fields.new g [2, 3] w _ (Nat.le_refl _) (by decide) | exact wire_fields.new g [2, 3] (w.drewN _) _ (Nat.le_refl _) (by decide) | exact wire_fields.new g [2, 3] w.drew _ (Nat.le_refl _) (by decide), by first | exact below_alloc (Below.refl _ _) _ | exact below_alloc (pw_below_drewN (Below.refl _ _) _) _ | exact below_alloc (below_drew1 (Below.refl _ _)) _⟩
 by_cases c6 : a0 = 6
 ·subst c6
  have e1 : wire_fields.o 6 = [5, 9, 10] := rfl
  rw [e1, show decide ((1 : Int) ≤ 6 ∧ (6 : Int) ≤ 11) = true from rfl]
  clear e1
  go_enter Try.func38, Try.ntmps38
  go_wp2_with (fail)
  go_still_tail 9, (by kernel_rfl)
  go_wp2_with (fail)
  go_ret2
  exact ⟨_, rfl, by first | exact wire_fields.new g [5, 9, 10] w _ (Nat.le_refl _) (by decide) | exact wire_fields.new g [5, 9, 10] (w.drewN _) _ (Nat.le_refl _) (by decide) | exact wire_fields.new g [5, 9, 10] w.drew _ (Nat.le_refl _) (by decide), by first | exact below_alloc (Below.refl _ _) _ | exact below_alloc (pw_below_drewN (Below.refl _ _) _) _ | exact below_alloc (below_drew1 (Below.refl _ _)) _⟩
 by_cases c8 : a0 = 8
 ·subst c8
  have e1 : wire_fields.o 8 = [11] := rfl
  rw [e1, show decide ((1 : Int) ≤ 8 ∧ (8 : Int) ≤ 11) = true from rfl]
  clear e1
  go_enter Try.func38, Try.ntmps38
  go_wp2_with (fail)
  go_ret2
  exact ⟨_, rfl, by first | exact wire_fields.new g [11] w _ (Nat.le_refl _) (by decide) | exact wire_fields.new g [11] (w.drewN _) _ (Nat.le_refl _) (by decide) | exact wire_fields.new g [11] w.drew _ (Nat.le_refl _) (by decide), by first | exact below_alloc (Below.refl _ _) _ | exact below_alloc (pw_below_drewN (Below.refl _ _) _) _ | exact below_alloc (below_drew1 (Below.refl _ _)) _⟩
 by_cases c9 : a0 = 9
 ·subst c9
  have e1 : wire_fields.o 9 = [6] := rfl
  rw [e1, show decide ((1 : Int) ≤ 9 ∧ (9 : Int) ≤ 11) = true from rfl]
  clear e1
  go_enter Try.func38, Try.ntmps38
  go_wp2_with (fail)
  go_ret2
  exact ⟨_, rfl, by first | exact wire_fields.new g [6] w _ (Nat.le_refl _) (by decide) | exact wire_fields.new g [6] (w.drewN _) _ (Nat.le_refl _) (by decide) | exact wire_fields.new g [6] w.drew _ (Nat.le_refl _) (by decide), by first | exact below_alloc (Below.refl _ _) _ | exact below_alloc (pw_below_drewN (Below.refl _ _) _) _ | exact below_alloc (below_drew1 (Below.refl _ _)) _⟩
 by_cases c11 : a0 = 11
 ·subst c11
  have e1 : wire_fields.o 11 = [6] := rfl
  rw [e1, show decide ((1 : Int) ≤ 11 ∧ (11 : Int) ≤ 11) = true from rfl]
  clear e1
  go_enter Try.func38, Try.ntmps38
  go_wp2_with (fail)
  go_ret2
  exact ⟨_, rfl, by first | exact wire_fields.new g [6] w _ (Nat.le_refl _) (by decide) | exact wire_fields.new g [6] (w.drewN _) _ (Nat.le_refl _) (by decide) | exact wire_fields.new g [6] w.drew _ (Nat.le_refl _) (by decide), by first | exact below_alloc (Below.refl _ _) _ | exact below_alloc (pw_below_drewN (Below.refl _ _) _) _ | exact below_alloc (below_drew1 (Below.refl _ _)) _⟩
 by_cases c10 : a0 = 10
 ·subst c10
  have e1 : wire_fields.o 10 = [6, 7] := rfl
  rw [e1, show decide ((1 : Int) ≤ 10 ∧ (10 : Int) ≤ 11) = true from rfl]
  clear e1
  go_enter Try.func38, Try.ntmps38
  go_wp2_with (fail)
  go_still_tail 6, (by kernel_rfl)
  go_wp2_with (fail)
  go_ret2
  exact ⟨_, rfl, by first | exact wire_fields.new g [6, 7] w _ (Nat.le_refl _) (by decide) | exact wire_fields.new g [6, 7] (w.drewN _) _ (Nat.le_refl _) (by decide) | exact wire_fields.new g [6, 7] w.drew _ (Nat.le_refl _) (by decide), by first | exact below_alloc (Below.refl _ _) _ | exact below_alloc (pw_below_drewN (Below.refl _ _) _) _ | exact below_alloc (below_drew1 (Below.refl _ _)) _⟩
 have e1 : wire_fields.o a0 = [] := by
  unfold wire_fields.o
  rw [if_neg c1, if_neg c2, if_neg (fun h => h.elim c3 c7), if_neg c4, if_neg c5, if_neg c6, if_neg c8, if_neg (fun h => h.elim c9 c11), if_neg c10]
 rw [e1, show decide (1 ≤ a0 ∧ a0 ≤ 11) = false from decide_eq_false (by omega)]
 clear e1
 replace c1 : (a0 == 1) = false := beq_eq_false_iff_ne.mpr c1
 replace c2 : (a0 == 2) = false := beq_eq_false_iff_ne.mpr c2
 replace c3 : (a0 == 3) = false := beq_eq_false_iff_ne.mpr c3
 replace c4 : (a0 == 4) = false := beq_eq_false_iff_ne.mpr c4
 replace c5 : (a0 == 5) = false := beq_eq_false_iff_ne.mpr c5
 replace c6 : (a0 == 6) = false := beq_eq_false_iff_ne.mpr c6
 replace c7 : (a0 == 7) = false := beq_eq_false_iff_ne.mpr c7
 replace c8 : (a0 == 8) = false := beq_eq_false_iff_ne.mpr c8
 replace c9 : (a0 == 9) = false := beq_eq_false_iff_ne.mpr c9
 replace c10 : (a0 == 10) = false := beq_eq_false_iff_ne.mpr c10
 replace c11 : (a0 == 11) = false := beq_eq_false_iff_ne.mpr c11
 go_enter Try.func38, Try.ntmps38
 go_wp2_with (fail)
 go_ret2
 exact ⟨_, rfl, Kd.R_nil _ _ _ _ _, Below.refl _ _⟩

/-! ### wire_flagged: function 39 -/
def wire_flagged.f (a0 : Int) : Option (Bool) := if a0 = 5 then (some true) else (some (a0 == 6))
set_option maxHeartbeats 8000000 in
set_option maxRecDepth 100000 in
theorem wire_flagged.calls (a0 : Int) (r : Bool) (w : World) (h : wire_flagged.f a0 = some r) :
    Calls Try.prog 39 #[.int .i64 a0] w fun e w' => e = .returned (.bool r) ∧ Drawn0 w w' := by
 have H : (if a0 = 5 then (some true) else (some (a0 == 6))) = some r := h
 clear h
 by_cases c2 : a0 = 5
 ·rw [if_pos c2] at H
  obtain ⟨c2b0, c2b1⟩ := Zr.y c2
  clear c2
  obtain rfl := Option.some.inj H
  go_enter Try.func39, Try.ntmps39
  go_wp2
  go_ret
  exact ⟨by first | rfl | (simp; done) | (simp [*]; done), by repeat (first | exact Drawn0.refl _ | apply Drawn0.step)⟩
 rw [if_neg c2] at H
 obtain ⟨c2b0, c2b1⟩ := Zr.n c2
 obtain rfl := Option.some.inj H
 go_enter Try.func39, Try.ntmps39
 go_wp2
 go_ret
 exact ⟨by first | rfl | (simp; done) | (simp [*]; done), by repeat (first | exact Drawn0.refl _ | apply Drawn0.step)⟩

end Go.Proofs.Ytikbpjdgihheiaa.P
end
