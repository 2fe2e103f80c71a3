-- Written by wip/mk.py of this repo: the kit's print program, with contracts of our own among its functions.
import Derived.Test.YtikbpjdgihheiaaPx0
import Derived.Test.YtikbpjdgihheiaaPx4
import Derived.Test.YtikbpjdgihheiaaPx10
import Derived.Test.YtikbpjdgihheiaaZz
-- pressed
namespace Go.Proofs.Ytikbpjdgihheiaa.P
open Go.RowKit Go.Proofs.YtikbpjdgihheiaaW.PrintWords Go.Proofs.YtikbpjdgihheiaaW.PrintLast Go.Proofs.YtikbpjdgihheiaaW.PrintMore
attribute [local go_sem] max2_int min2_int max_two min_two max_three min_three max_four min_four   -- for this text's walks alone
attribute [local go_sem ↓] Kp.LDAsk_in
attribute [local go_sem] Kp.LDAsk_run
set_option linter.unusedVariables false
set_option linter.unusedSimpArgs false

/-! ### batch_Encode: function 40 -/
theorem C_new_ints {W : World} {g : Nat} (xs : List Int) (cs : Array Value) (t : TypeId) (hl : xs.length ≤ 9223372036854775807) (hb : W.heap[g]? = some (.cells cs t (0, 0))) (hcs : cs = (xs.map fun n => Value.int .i64 n).toArray) : Kd.C (Kd.int .i64) W (some ⟨g, 0, none⟩) xs.length xs := by
  subst hcs
  refine ⟨rfl, hl, fun _ => ⟨_, rfl, fun j p hp => ⟨[.int .i64 p], rfl, rfl, fun i u hu => ?_⟩⟩⟩
  have hi : i < 1 := by
    rcases Nat.lt_or_ge i 1 with h | h
    · exact h
    · rw [List.getElem?_eq_none (by simpa using h)] at hu; cases hu
  obtain rfl : i = 0 := by omega
  obtain rfl : Value.int .i64 p = u := by simpa using hu
  have := blk_cell hb j
  have e : ((⟨g, 0, none⟩ : Addr).add (j * (Kd.int .i64).sz + 0)) = ⟨g, j, none⟩ := by
    show (⟨g, 0, none⟩ : Addr).add (j * 1 + 0) = _
    unfold Addr.add
    by_cases hj : j = 0 <;> simp [hj]
  rw [e, this]
  simp [hp]
/-- The records' bytes, one behind the other. -/
def batch_Encode.g : List S57 → Option (List UInt8)
  | [] => some []
  | x :: r => (batch_PutRecord.f x.f0 x.f1 x.f2).bind fun t => (batch_Encode.g r).bind fun u => some (t.data.toList ++ u)
def batch_Encode.f (k : Nat) (a0_0 : Int) (a0_1 : Int) (a0_2 : Int) (a0_3 : Int) (l0_4 : List S57) : Option (ByteArray × Int) :=
  (batch_Check.f k a0_0 a0_1 a0_2 a0_3 l0_4).bind fun e => if e = 0 then ((varint_PutAll.f [a0_0, a0_1, a0_2, a0_3, (l0_4.length : Int)]).bind fun h => (batch_Encode.g l0_4).bind fun u => if h.size + u.length ≤ 140737488355328 then some (Vm.bs (h.data.toList ++ u), 0) else none) else some ((⟨#[]⟩ : ByteArray), e)
theorem batch_Encode.mono : ∀ a0 a1 a2 a3 a4 k, LeO (batch_Encode.f k a0 a1 a2 a3 a4) (batch_Encode.f (k + 1) a0 a1 a2 a3 a4) := by
  intro a0 a1 a2 a3 a4 k
  unfold batch_Encode.f
  exact LeO.bind (batch_Check.mono _ _ _ _ _ _) (fun _ => LeO.refl _)
theorem batch_Encode.g_step (x : S57) (r : List S57) (u : List UInt8) (h : batch_Encode.g (x :: r) = some u) : ∃ t v, batch_PutRecord.f x.f0 x.f1 x.f2 = some t ∧ batch_Encode.g r = some v ∧ u = t.data.toList ++ v := by
  obtain ⟨t, ht, h⟩ := Option.bind_eq_some_iff.mp h
  obtain ⟨v, hv, h⟩ := Option.bind_eq_some_iff.mp h
  exact ⟨t, v, ht, hv, (Option.some.inj h).symm⟩
set_option maxHeartbeats 8000000 in
set_option maxRecDepth 100000 in
theorem batch_Encode.calls (k : Nat) (a0_0 : Int) (a0_1 : Int) (a0_2 : Int) (a0_3 : Int) (A0_4 : Option Addr) (c0_4 : Nat) (l0_4 : List S57) (r1 : ByteArray) (r2 : Int) (w : World) (hr0_4 : Kd.C k57 w A0_4 l0_4.length l0_4) (hc0_4 : l0_4.length ≤ c0_4) (h : batch_Encode.f k a0_0 a0_1 a0_2 a0_3 l0_4 = some (r1, r2)) :
    Calls Try.prog 40 #[.agg #[.int .i64 a0_0, .int .i64 a0_1, .int .i64 a0_2, .int .i64 a0_3, .slice A0_4 l0_4.length c0_4]] w fun e w' => e = .returned (.tuple #[.string r1, .int .i64 r2]) ∧ Below w.heap.size w w' := by
 have huB := Try.underlying41
 have huR := Try.underlying57
 have HR := Aside0.mk hr0_4
 have HC := Aside0.mk hc0_4
 have HB0 := Aside0.mk (Below.refl w.heap.size w)
 have hlb := hr0_4.2.1
 clear hr0_4 hc0_4
 obtain ⟨ec, hec, h⟩ := Option.bind_eq_some_iff.mp h
 have A1 := Aside0.mk hec
 clear hec
 have H := Aside0.mk h
 clear h
 by_cases hz : ec = 0
 case neg =>
  have hzb : (ec != 0) = true := bne_iff_ne.mpr hz
  have H0 := H.out
  rw [if_neg hz] at H0
  have HE1 := Aside0.mk (Prod.mk.inj (Option.some.inj H0)).1
  have HE2 := Aside0.mk (Prod.mk.inj (Option.some.inj H0)).2
  clear H H0 hz
  go_enter Try.func40, Try.ntmps40
  go_wp2_with (first | ((with_reducible refine gate_dst (N := 1) rfl ?_); refine box_event ?hg (N := 1) ?hd (cs := #[.int .i64 a0_0, .int .i64 a0_1, .int .i64 a0_2, .int .i64 a0_3, .slice A0_4 l0_4.length c0_4]) (t := 41) ?hr ?_; (case hd => rfl); (case hg => rfl); (case hr => first | (go_simp; done) | (go_simp; rfl)); intro gb hg w1 hbox hb; have HB1 := Aside0.mk (below_step HB0.out hb); have BK := Aside0.mk hbox; have GW : w.heap.size ≤ gb := (by rw [hg]; exact Nat.le_refl _); clear hb hbox hg; have hc0 : w1.cell? ⟨gb, 0, none⟩ = some (.int .i64 a0_0) := (blk_cell BK.out 0).trans rfl; have hc1 : w1.cell? ⟨gb, 1, none⟩ = some (.int .i64 a0_1) := (blk_cell BK.out 1).trans rfl; have hc2 : w1.cell? ⟨gb, 2, none⟩ = some (.int .i64 a0_2) := (blk_cell BK.out 2).trans rfl; have hc3 : w1.cell? ⟨gb, 3, none⟩ = some (.int .i64 a0_3) := (blk_cell BK.out 3).trans rfl; have hc4 : w1.cell? ⟨gb, 4, none⟩ = some (.slice A0_4 l0_4.length c0_4) := (blk_cell BK.out 4).trans rfl) | (go_at_call 60; go_loud (refine (batch_Check.calls k a0_0 a0_1 a0_2 a0_3 _ _ l0_4 ec _ (Kd.C_below HR.out HB1.out) HC.out A1.out).mono ?_; rintro e w2 ⟨rfl, hb⟩; have HB2 := Aside0.mk (below_step HB1.out hb); have BK2 := Aside0.mk (blk_below BK.out hb); clear hc0 hc1 hc2 hc3 hc4 BK HB1 hb); have hc0 : ∀ o, (w2.alloc o).cell? ⟨gb, 0, none⟩ = some (.int .i64 a0_0) := fun o => (blk_cell (blk_alloc BK2.out o) 0).trans rfl; have hc1 : ∀ o, (w2.alloc o).cell? ⟨gb, 1, none⟩ = some (.int .i64 a0_1) := fun o => (blk_cell (blk_alloc BK2.out o) 1).trans rfl; have hc2 : ∀ o, (w2.alloc o).cell? ⟨gb, 2, none⟩ = some (.int .i64 a0_2) := fun o => (blk_cell (blk_alloc BK2.out o) 2).trans rfl; have hc3 : ∀ o, (w2.alloc o).cell? ⟨gb, 3, none⟩ = some (.int .i64 a0_3) := fun o => (blk_cell (blk_alloc BK2.out o) 3).trans rfl; have hc4 : ∀ o, (w2.alloc o).cell? ⟨gb, 4, none⟩ = some (.slice A0_4 l0_4.length c0_4) := fun o => (blk_cell (blk_alloc BK2.out o) 4).trans rfl; have GB : gb < w2.heap.size := blk_lt BK2.out))
  go_ret2
  refine ⟨?_, HB2.out⟩
  rw [← HE1.out, ← HE2.out]
  rfl
 have hzb : (ec != 0) = false := bne_eq_false_iff_eq.mpr hz
 subst hz
 have H0 := H.out
 rw [if_pos rfl] at H0
 obtain ⟨hd, hhd, H0⟩ := Option.bind_eq_some_iff.mp H0
 obtain ⟨u, hu, H0⟩ := Option.bind_eq_some_iff.mp H0
 have A2 := Aside0.mk hhd
 split at H0
 case isFalse => cases H0
 rename_i hlen
 have HL := Aside0.mk hlen
 have A3 := Aside0.mk hu
 have HE1 := Aside0.mk (Prod.mk.inj (Option.some.inj H0)).1
 have HE2 := Aside0.mk (Prod.mk.inj (Option.some.inj H0)).2
 clear H hhd hu H0 hlen
 go_enter Try.func40, Try.ntmps40
 go_wp2_with (first | ((with_reducible refine gate_dst (N := 1) rfl ?_); refine box_event ?hg (N := 1) ?hd (cs := #[.int .i64 a0_0, .int .i64 a0_1, .int .i64 a0_2, .int .i64 a0_3, .slice A0_4 l0_4.length c0_4]) (t := 41) ?hr ?_; (case hd => rfl); (case hg => rfl); (case hr => first | (go_simp; done) | (go_simp; rfl)); intro gb hg w1 hbox hb; have HB1 := Aside0.mk (below_step HB0.out hb); have BK := Aside0.mk hbox; have GW : w.heap.size ≤ gb := (by rw [hg]; exact Nat.le_refl _); clear hb hbox hg; have hc0 : w1.cell? ⟨gb, 0, none⟩ = some (.int .i64 a0_0) := (blk_cell BK.out 0).trans rfl; have hc1 : w1.cell? ⟨gb, 1, none⟩ = some (.int .i64 a0_1) := (blk_cell BK.out 1).trans rfl; have hc2 : w1.cell? ⟨gb, 2, none⟩ = some (.int .i64 a0_2) := (blk_cell BK.out 2).trans rfl; have hc3 : w1.cell? ⟨gb, 3, none⟩ = some (.int .i64 a0_3) := (blk_cell BK.out 3).trans rfl; have hc4 : w1.cell? ⟨gb, 4, none⟩ = some (.slice A0_4 l0_4.length c0_4) := (blk_cell BK.out 4).trans rfl) | (go_at_call 60; go_loud (refine (batch_Check.calls k a0_0 a0_1 a0_2 a0_3 _ _ l0_4 0 _ (Kd.C_below HR.out HB1.out) HC.out A1.out).mono ?_; rintro e w2 ⟨rfl, hb⟩; have HB2 := Aside0.mk (below_step HB1.out hb); have BK2 := Aside0.mk (blk_below BK.out hb); clear hc0 hc1 hc2 hc3 hc4 BK HB1 hb); have hc0 : ∀ o, (w2.alloc o).cell? ⟨gb, 0, none⟩ = some (.int .i64 a0_0) := fun o => (blk_cell (blk_alloc BK2.out o) 0).trans rfl; have hc1 : ∀ o, (w2.alloc o).cell? ⟨gb, 1, none⟩ = some (.int .i64 a0_1) := fun o => (blk_cell (blk_alloc BK2.out o) 1).trans rfl; have hc2 : ∀ o, (w2.alloc o).cell? ⟨gb, 2, none⟩ = some (.int .i64 a0_2) := fun o => (blk_cell (blk_alloc BK2.out o) 2).trans rfl; have hc3 : ∀ o, (w2.alloc o).cell? ⟨gb, 3, none⟩ = some (.int .i64 a0_3) := fun o => (blk_cell (blk_alloc BK2.out o) 3).trans rfl; have hc4 : ∀ o, (w2.alloc o).cell? ⟨gb, 4, none⟩ = some (.slice A0_4 l0_4.length c0_4) := fun o => (blk_cell (blk_alloc BK2.out o) 4).trans rfl; have GB : gb < w2.heap.size := blk_lt BK2.out))
 generalize hL : [a0_0, a0_1, a0_2, a0_3, (l0_4.length : Int)] = L at A2
 have hL5 : L.length = 5 := by rw [← hL]; rfl
 have HCn : Kd.C (Kd.int .i64) ((w2.alloc (.cells #[.pointer none, .slice none 0 0] 64)).alloc (.cells #[.int .i64 a0_0, .int .i64 a0_1, .int .i64 a0_2, .int .i64 a0_3, .int .i64 (l0_4.length : Int)] 3)) (some ⟨w2.heap.size + 1, 0, none⟩) L.length L := C_new_ints L _ 3 (by omega) (by first | exact blk_new _ _ | (have := blk_new (w2.alloc (.cells #[.pointer none, .slice none 0 0] 64)) (.cells #[.int .i64 a0_0, .int .i64 a0_1, .int .i64 a0_2, .int .i64 a0_3, .int .i64 (l0_4.length : Int)] 3); simpa using this)) (by rw [← hL]; rfl)
 have HP := varint_PutAll.calls _ 5 L hd _ HCn (by omega) A2.out
 rw [hL5] at HP
 clear hL hL5 HCn
 refine HP.mono ?_
 rintro e w3 ⟨rfl, hb⟩
 have HI3 := Aside0.mk (Bld.IsBuilder.below (Lib.fresh_isBuilder 64 5 w2) (below_step (below_alloc (Below.refl _ _) _) hb))
 have HX3 := Aside0.mk (below_step (below_alloc (below_alloc (Below.refl _ w2) _) _) hb)
 have hsz3 : w2.heap.size ≤ w3.heap.size := HX3.out.size
 clear hb HP hc0 hc1 hc2 hc3 hc4
 have HL1 := Aside0.mk (show ([] : List Value).length + hd.size ≤ 140737488355328 by have := HL.out; simp only [List.length_nil]; omega)
 go_wp2_with (go_at_call 22; refine (Bld.writeString w2.heap.size w2.heap.size [] hd _ HI3.out HL1.out hsz3).mono ?_)
 rintro e w4 ⟨rfl, hi, hb⟩
 have HI4 := Aside0.mk hi
 have HX4 := Aside0.mk (HX3.out.trans hb)
 have hc4 : w4.cell? ⟨gb, 4, none⟩ = some (.slice A0_4 l0_4.length c0_4) := (blk_cell ((HX4.out.block gb GB).trans BK2.out) 4).trans rfl
 clear hb hi HI3 HX3 hsz3
 go_wp2
 go_loopw [7, 30] (fun v7 v30 wr => ∃ (j : Nat) (p v : List UInt8), j ≤ l0_4.length ∧ v30 = .int .i64 j ∧ Aside0 (batch_Encode.g (l0_4.drop j) = some v) ∧ Aside0 (p ++ v = u) ∧ Aside0 (Lib.IsBuilder 64 5 w2.heap.size w2.heap.size (Lib.byteCells (hd.data.toList ++ p)) wr) ∧ Aside0 (Below w2.heap.size w2 wr)) (fun _ v30 _ => l0_4.length - (intOf v30).toNat)
 case atStart =>
  refine ⟨0, [], u, Nat.zero_le _, rfl, ⟨A3.out⟩, ⟨rfl⟩, ⟨?_⟩, HX4⟩
  have := HI4.out
  rw [Bld.strCells_eq] at this
  rw [List.append_nil]
  exact .inr this
 case round =>
  obtain ⟨j, p, v, hj, rfl, G, PV, HI, HX⟩ := hrel
  clear HI4 HX4 hc4
  by_cases hlt : j < l0_4.length
  ·have hji : (j : Int) < (l0_4.length : Int) := by omega
   have hj0 : 0 ≤ (j : Int) := by omega
   have HBr := Aside0.mk (below_step HB2.out HX.out)
   obtain ⟨ad, eA, hx0, hx1, hx2⟩ := at_T57 HR.out (j : Int) hj0 hji
   cases eA
   replace hx0 := (HBr.out.cell (World.block_lt_of_cell? w _ hx0)).trans hx0
   replace hx1 := (HBr.out.cell (World.block_lt_of_cell? w _ hx1)).trans hx1
   replace hx2 := (HBr.out.cell (World.block_lt_of_cell? w _ hx2)).trans hx2
   rw [Int.toNat_natCast] at hx0 hx1 hx2
   have hd1 : l0_4.drop j = rd_T57 l0_4 (j : Int) :: l0_4.drop (j + 1) := by
    rw [List.drop_eq_getElem_cons hlt]
    simp [rd_T57, List.getD_eq_getElem?_getD, List.getElem?_eq_getElem hlt]
   have hg := G.out
   rw [hd1] at hg
   obtain ⟨tx, vx, htx, hvx, hev⟩ := batch_Encode.g_step _ _ _ hg
   have A4 := Aside0.mk htx
   have A5 := Aside0.mk hvx
   have A6 := Aside0.mk hev
   clear hd1 hg htx hvx hev
   go_wp2_with (first | ((with_reducible refine gate_dst (N := 7) rfl ?_); refine box_event ?hg (N := 7) ?hd (cs := #[.int .i64 0, .int .i64 0, .string ⟨#[]⟩]) (t := 57) ?hr ?_; (case hd => rfl); (case hg => rfl); (case hr => first | (go_simp; done) | (go_simp; rfl)); intro gr hg w5 hbox hb; have BR := Aside0.mk hbox; have HB5 := Aside0.mk hb; have GR : wr.heap.size ≤ gr := (by rw [hg]; exact Nat.le_refl _); clear hb hbox hg; have hz0 : w5.cell? ⟨gr, 0, none⟩ = some (.int .i64 0) := (blk_cell BR.out 0).trans rfl; have hz1 : w5.cell? ⟨gr, 1, none⟩ = some (.int .i64 0) := (blk_cell BR.out 1).trans rfl; have hz2 : w5.cell? ⟨gr, 2, none⟩ = some (.string ⟨#[]⟩) := (blk_cell BR.out 2).trans rfl; have hf0 := blk_frozen BR.out 0; have hf1 := blk_frozen BR.out 1; have hf2 := blk_frozen BR.out 2) | (go_at_call 25; fail))
   refine (batch_PutRecord.calls _ _ _ tx _ A4.out).mono ?_
   rintro e w6 ⟨rfl, hb6⟩
   have HW := Aside0.mk (below_step (below_set (j := 2) (v := .string (rd_T57 l0_4 (j : Int)).f2) (below_set (j := 1) (v := .int .i64 (rd_T57 l0_4 (j : Int)).f1) (below_set (j := 0) (v := .int .i64 (rd_T57 l0_4 (j : Int)).f0) HB5.out GR) GR) GR) hb6)
   have HX6 := Aside0.mk (below_step HX.out HW.out)
   have HI6 := Aside0.mk (Bld.IsBuilder.below HI.out HW.out)
   have hsz6 : w2.heap.size ≤ w6.heap.size := HX6.out.size
   have HL6 := Aside0.mk (show (Lib.byteCells (hd.data.toList ++ p)).length + tx.size ≤ 140737488355328 by
    have h1 := HL.out
    have h2 := congrArg List.length PV.out
    rw [A6.out] at h2
    have h3 : tx.data.toList.length = tx.size := by simp
    have h4 : hd.data.toList.length = hd.size := by simp
    simp only [Lib.byteCells, List.length_map, List.length_append] at h2 ⊢
    omega)
   clear hb6 HW HB5 hz0 hz1 hz2 hf0 hf1 hf2 BR hx0 hx1 hx2
   go_wp2_with (go_at_call 22; refine (Bld.writeString w2.heap.size w2.heap.size _ tx _ HI6.out HL6.out hsz6).mono ?_)
   rintro e w7 ⟨rfl, hi, hb⟩
   have HI7 := Aside0.mk hi
   have HX7 := Aside0.mk (HX6.out.trans hb)
   clear hi hb
   go_wp2
   go_roundw
   case rel =>
    refine ⟨j + 1, p ++ tx.data.toList, vx, by omega, by go_num, A5, ⟨?_⟩, ⟨?_⟩, HX7⟩
    ·rw [List.append_assoc, ← A6.out]; exact PV.out
    have := HI7.out
    rw [Bld.strCells_eq, ← Bld.byteCells_append, List.append_assoc] at this
    exact .inr this
   case measure => simp [intOf]; omega
  obtain rfl : j = l0_4.length := by omega
  have hji : ¬ ((l0_4.length : Nat) : Int) < ((l0_4.length : Nat) : Int) := by omega
  have hv : v = [] := by
   have := G.out
   rw [List.drop_length] at this
   exact (Option.some.inj this).symm
  subst hv
  have hszr : w2.heap.size ≤ wr.heap.size := HX.out.size
  go_wp2_with (go_at_call 27; refine (Bld.string w2.heap.size w2.heap.size _ _ HI.out hszr).mono ?_)
  rintro e w8 rfl hb8
  have HX8 := Aside0.mk (below_weaken HB2.out HB2.out.size (HX.out.trans hb8))
  clear hb8
  go_wp2
  go_ret2
  have hp : p = u := by have := PV.out; rwa [List.append_nil] at this
  refine ⟨?_, HX8.out⟩
  rw [← HE1.out, ← HE2.out, ← hp]
  rfl

end Go.Proofs.Ytikbpjdgihheiaa.P
