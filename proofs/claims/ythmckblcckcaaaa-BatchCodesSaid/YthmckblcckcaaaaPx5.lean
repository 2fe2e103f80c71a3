-- Written by wip/mk.py of this repo: the kit's print program, with contracts of our own among its functions.
import Derived.Test.YthmckblcckcaaaaPx0
import Derived.Test.YthmckblcckcaaaaPx3
import Derived.Test.YthmckblcckcaaaaPx4
-- squeezed
namespace Go.Proofs.Ythmckblcckcaaaa.P
open Go.RowKit Go.Proofs.YthmckblcckcaaaaW.PrintWords Go.Proofs.YthmckblcckcaaaaW.PrintLast Go.Proofs.YthmckblcckcaaaaW.PrintMore
attribute [local go_sem] max2_int min2_int max_two min_two max_three min_three max_four min_four   -- for this text's walks alone
set_option linter.unusedVariables false
set_option linter.unusedSimpArgs false

/-! ### batch_Encode: function 20 -/
theorem C_new_ints {W : World} {g : Nat} (xs : List Int) (cs : Array Value) (t : TypeId) (hl : xs.length ≤ 9223372036854775807) (hb : W.heap[g]? = some (.cells cs t (0, 0))) (hcs : cs = (xs.map fun n => Value.int .i64 n).toArray) : Kd.C (Kd.int .i64) W (some ⟨g, 0, none⟩) xs.length xs := by
 subst hcs
 refine ⟨rfl, hl, fun _ => ⟨_, rfl, fun j p hp => ⟨[.int .i64 p], rfl, rfl, fun i u hu => ?_⟩⟩⟩
 have hi : i < 1 := by
  rcases Nat.lt_or_ge i 1 with h | h
  ·exact h
  ·rw [List.getElem?_eq_none (by simpa using h)] at hu; cases hu
 obtain rfl : i = 0 := by omega
 obtain rfl : Value.int .i64 p = u := by simpa using hu
 have := blk_cell hb j
 have e : ((⟨g, 0, none⟩ : Addr).add (j * (Kd.int .i64).sz + 0)) = ⟨g, j, none⟩ := by
  show (⟨g, 0, none⟩ : Addr).add (j * 1 + 0) = _
  unfold Addr.add
  by_cases hj : j = 0 <;> simp [hj]
 rw [e, this]
 simp [hp]
/-- The records' bytes, one behind the other. -/
def batch_Encode.g : List S31 → Option (List UInt8)
 | [] => some []
 | x :: r => (batch_PutRecord.f x.f0 x.f1 x.f2).bind fun t => (batch_Encode.g r).bind fun u => some (t.data.toList ++ u)
def batch_Encode.f (k : Nat) (a0_0 : Int) (a0_1 : Int) (a0_2 : Int) (a0_3 : Int) (l0_4 : List S31) : Option (ByteArray × Int) :=
 (batch_Check.f k a0_0 a0_1 a0_2 a0_3 l0_4).bind fun e => if e = 0 then ((varint_PutAll.f [a0_0, a0_1, a0_2, a0_3, (l0_4.length : Int)]).bind fun h => (batch_Encode.g l0_4).bind fun u => if h.size + u.length ≤ 140737488355328 then some (Vm.bs (h.data.toList ++ u), 0) else none) else some ((⟨#[]⟩ : ByteArray), e)
theorem batch_Encode.mono : ∀ a0 a1 a2 a3 a4 k, LeO (batch_Encode.f k a0 a1 a2 a3 a4) (batch_Encode.f (k + 1) a0 a1 a2 a3 a4) := by
 intro a0 a1 a2 a3 a4 k
 unfold batch_Encode.f
 exact LeO.bind (batch_Check.mono _ _ _ _ _ _) (fun _ => LeO.refl _)
theorem batch_Encode.g_step (x : S31) (r : List S31) (u : List UInt8) (h : batch_Encode.g (x :: r) = some u) : ∃ t v, batch_PutRecord.f x.f0 x.f1 x.f2 = some t ∧ batch_Encode.g r = some v ∧ u = t.data.toList ++ v := by
 obtain ⟨t, ht, h⟩ := Option.bind_eq_some_iff.mp h
 obtain ⟨v, hv, h⟩ := Option.bind_eq_some_iff.mp h
 exact ⟨t, v, ht, hv, (Option.some.inj h).symm⟩
set_option maxHeartbeats 8000000 in
set_option maxRecDepth 100000 in
theorem batch_Encode.calls (k : Nat) (a0_0 : Int) (a0_1 : Int) (a0_2 : Int) (a0_3 : Int) (A0_4 : Option Addr) (c0_4 : Nat) (l0_4 : List S31) (r1 : ByteArray) (r2 : Int) (w : World) (hr0_4 : Kd.C k31 w A0_4 l0_4.length l0_4) (hc0_4 : l0_4.length ≤ c0_4) (h : batch_Encode.f k a0_0 a0_1 a0_2 a0_3 l0_4 = some (r1, r2)) :
  Calls Try.prog 20 #[.agg #[.int .i64 a0_0, .int .i64 a0_1, .int .i64 a0_2, .int .i64 a0_3, .slice A0_4 l0_4.length c0_4]] w fun e w' => e = .returned (.tuple #[.string r1, .int .i64 r2]) ∧ Below w.heap.size w w' := by
 have huB := Try.underlying24
 have huR := Try.underlying31
 have HR := Aside0.mk hr0_4
 have HC := Aside0.mk hc0_4
 have HB0 := Aside0.mk (Below.refl w.heap.size w)
 have hlb := hr0_4.2.1
 clear hr0_4 hc0_4
 obtain ⟨ec, hec, h⟩ := Option.bind_eq_some_iff.mp h
 have A1 := Aside0.mk hec
 clear hec
 have H := Aside0.mk h
 clear h
 by_cases hz : ec = 0
 case neg =>
  have hzb : (ec != 0) = true := bne_iff_ne.mpr hz
  have H0 := H.out
  rw [if_neg hz] at H0
  have HE1 := Aside0.mk (Prod.mk.inj (Option.some.inj H0)).1
  have HE2 := Aside0.mk (Prod.mk.inj (Option.some.inj H0)).2
  clear H H0 hz
  go_enter Try.func20, Try.ntmps20
  go_wp2_with (first | ((with_reducible refine gate_dst (N := 1) rfl ?_); refine box_event ?hg (N := 1) ?hd (cs := #[.int .i64 a0_0, .int .i64 a0_1, .int .i64 a0_2, .int .i64 a0_3, .slice A0_4 l0_4.length c0_4]) (t := 24) ?hr ?_; (case hd => rfl); (case hg => rfl); (case hr => first | (go_simp; done) | (go_simp; rfl)); intro gb hg w1 hbox hb; have HB1 := Aside0.mk (below_step HB0.out hb); have BK := Aside0.mk hbox; have GW : w.heap.size ≤ gb := (by rw [hg]; exact Nat.le_refl _); clear hb hbox hg; have hc0 : w1.cell? ⟨gb, 0, none⟩ = some (.int .i64 a0_0) := (blk_cell BK.out 0).trans rfl; have hc1 : w1.cell? ⟨gb, 1, none⟩ = some (.int .i64 a0_1) := (blk_cell BK.out 1).trans rfl; have hc2 : w1.cell? ⟨gb, 2, none⟩ = some (.int .i64 a0_2) := (blk_cell BK.out 2).trans rfl; have hc3 : w1.cell? ⟨gb, 3, none⟩ = some (.int .i64 a0_3) := (blk_cell BK.out 3).trans rfl; have hc4 : w1.cell? ⟨gb, 4, none⟩ = some (.slice A0_4 l0_4.length c0_4) := (blk_cell BK.out 4).trans rfl) | (go_at_call 11; go_loud (refine (batch_Check.calls k a0_0 a0_1 a0_2 a0_3 _ _ l0_4 ec _ (Kd.C_below HR.out HB1.out) HC.out A1.out).mono ?_; rintro e w2 ⟨rfl, hb⟩; have HB2 := Aside0.mk (below_step HB1.out hb); have BK2 := Aside0.mk (blk_below BK.out hb); clear hc0 hc1 hc2 hc3 hc4 BK HB1 hb); have hc0 : ∀ o, (w2.alloc o).cell? ⟨gb, 0, none⟩ = some (.int .i64 a0_0) := fun o => (blk_cell (blk_alloc BK2.out o) 0).trans rfl; have hc1 : ∀ o, (w2.alloc o).cell? ⟨gb, 1, none⟩ = some (.int .i64 a0_1) := fun o => (blk_cell (blk_alloc BK2.out o) 1).trans rfl; have hc2 : ∀ o, (w2.alloc o).cell? ⟨gb, 2, none⟩ = some (.int .i64 a0_2) := fun o => (blk_cell (blk_alloc BK2.out o) 2).trans rfl; have hc3 : ∀ o, (w2.alloc o).cell? ⟨gb, 3, none⟩ = some (.int .i64 a0_3) := fun o => (blk_cell (blk_alloc BK2.out o) 3).trans rfl; have hc4 : ∀ o, (w2.alloc o).cell? ⟨gb, 4, none⟩ = some (.slice A0_4 l0_4.length c0_4) := fun o => (blk_cell (blk_alloc BK2.out o) 4).trans rfl; have GB : gb < w2.heap.size := blk_lt BK2.out))
  go_ret2
  refine ⟨?_, HB2.out⟩
  rw [← HE1.out, ← HE2.out]
  rfl
 have hzb : (ec != 0) = false := bne_eq_false_iff_eq.mpr hz
 subst hz
 have H0 := H.out
 rw [if_pos rfl] at H0
 obtain ⟨hd, hhd, H0⟩ := Option.bind_eq_some_iff.mp H0
 obtain ⟨u, hu, H0⟩ := Option.bind_eq_some_iff.mp H0
 have A2 := Aside0.mk hhd
 split at H0
 case isFalse => cases H0
 rename_i hlen
 have HL := Aside0.mk hlen
 have A3 := Aside0.mk hu
 have HE1 := Aside0.mk (Prod.mk.inj (Option.some.inj H0)).1
 have HE2 := Aside0.mk (Prod.mk.inj (Option.some.inj H0)).2
 clear H hhd hu H0 hlen
 go_enter Try.func20, Try.ntmps20
 go_wp2_with (first | ((with_reducible refine gate_dst (N := 1) rfl ?_); refine box_event ?hg (N := 1) ?hd (cs := #[.int .i64 a0_0, .int .i64 a0_1, .int .i64 a0_2, .int .i64 a0_3, .slice A0_4 l0_4.length c0_4]) (t := 24) ?hr ?_; (case hd => rfl); (case hg => rfl); (case hr => first | (go_simp; done) | (go_simp; rfl)); intro gb hg w1 hbox hb; have HB1 := Aside0.mk (below_step HB0.out hb); have BK := Aside0.mk hbox; have GW : w.heap.size ≤ gb := (by rw [hg]; exact Nat.le_refl _); clear hb hbox hg; have hc0 : w1.cell? ⟨gb, 0, none⟩ = some (.int .i64 a0_0) := (blk_cell BK.out 0).trans rfl; have hc1 : w1.cell? ⟨gb, 1, none⟩ = some (.int .i64 a0_1) := (blk_cell BK.out 1).trans rfl; have hc2 : w1.cell? ⟨gb, 2, none⟩ = some (.int .i64 a0_2) := (blk_cell BK.out 2).trans rfl; have hc3 : w1.cell? ⟨gb, 3, none⟩ = some (.int .i64 a0_3) := (blk_cell BK.out 3).trans rfl; have hc4 : w1.cell? ⟨gb, 4, none⟩ = some (.slice A0_4 l0_4.length c0_4) := (blk_cell BK.out 4).trans rfl) | (go_at_call 11; go_loud (refine (batch_Check.calls k a0_0 a0_1 a0_2 a0_3 _ _ l0_4 0 _ (Kd.C_below HR.out HB1.out) HC.out A1.out).mono ?_; rintro e w2 ⟨rfl, hb⟩; have HB2 := Aside0.mk (below_step HB1.out hb); have BK2 := Aside0.mk (blk_below BK.out hb); clear hc0 hc1 hc2 hc3 hc4 BK HB1 hb); have hc0 : ∀ o, (w2.alloc o).cell? ⟨gb, 0, none⟩ = some (.int .i64 a0_0) := fun o => (blk_cell (blk_alloc BK2.out o) 0).trans rfl; have hc1 : ∀ o, (w2.alloc o).cell? ⟨gb, 1, none⟩ = some (.int .i64 a0_1) := fun o => (blk_cell (blk_alloc BK2.out o) 1).trans rfl; have hc2 : ∀ o, (w2.alloc o).cell? ⟨gb, 2, none⟩ = some (.int .i64 a0_2) := fun o => (blk_cell (blk_alloc BK2.out o) 2).trans rfl; have hc3 : ∀ o, (w2.alloc o).cell? ⟨gb, 3, none⟩ = some (.int .i64 a0_3) := fun o => (blk_cell (blk_alloc BK2.out o) 3).trans rfl; have hc4 : ∀ o, (w2.alloc o).cell? ⟨gb, 4, none⟩ = some (.slice A0_4 l0_4.length c0_4) := fun o => (blk_cell (blk_alloc BK2.out o) 4).trans rfl; have GB : gb < w2.heap.size := blk_lt BK2.out))
 generalize hL : [a0_0, a0_1, a0_2, a0_3, (l0_4.length : Int)] = L at A2
 have hL5 : L.length = 5 := by rw [← hL]; rfl
 have HCn : Kd.C (Kd.int .i64) ((w2.alloc (.cells #[.pointer none, .slice none 0 0] 68)).alloc (.cells #[.int .i64 a0_0, .int .i64 a0_1, .int .i64 a0_2, .int .i64 a0_3, .int .i64 (l0_4.length : Int)] 3)) (some ⟨w2.heap.size + 1, 0, none⟩) L.length L := C_new_ints L _ 3 (by omega) (by first | exact blk_new _ _ | (have := blk_new (w2.alloc (.cells #[.pointer none, .slice none 0 0] 68)) (.cells #[.int .i64 a0_0, .int .i64 a0_1, .int .i64 a0_2, .int .i64 a0_3, .int .i64 (l0_4.length : Int)] 3); simpa using this)) (by rw [← hL]; rfl)
 have HP := varint_PutAll.calls _ 5 L hd _ HCn (by omega) A2.out
 rw [hL5] at HP
 clear hL hL5 HCn
 refine HP.mono ?_
 rintro e w3 ⟨rfl, hb⟩
 have HI3 := Aside0.mk (Bld.IsBuilder.below (Lib.fresh_isBuilder 68 5 w2) (below_step (below_alloc (Below.refl _ _) _) hb))
 have HX3 := Aside0.mk (below_step (below_alloc (below_alloc (Below.refl _ w2) _) _) hb)
 have hsz3 : w2.heap.size ≤ w3.heap.size := HX3.out.size
 clear hb HP hc0 hc1 hc2 hc3 hc4
 have HL1 := Aside0.mk (show ([] : List Value).length + hd.size ≤ 140737488355328 by have := HL.out; simp only [List.length_nil]; omega)
 go_wp2_with (go_at_call 36; refine (Bld.writeString w2.heap.size w2.heap.size [] hd _ HI3.out HL1.out hsz3).mono ?_)
 rintro e w4 ⟨rfl, hi, hb⟩
 have HI4 := Aside0.mk hi
 have HX4 := Aside0.mk (HX3.out.trans hb)
 have hc4 : w4.cell? ⟨gb, 4, none⟩ = some (.slice A0_4 l0_4.length c0_4) := (blk_cell ((HX4.out.block gb GB).trans BK2.out) 4).trans rfl
 clear hb hi HI3 HX3 hsz3
 go_wp2
 go_loopw [7, 30] (fun v7 v30 wr => ∃ (j : Nat) (p v : List UInt8), j ≤ l0_4.length ∧ v30 = .int .i64 j ∧ Aside0 (batch_Encode.g (l0_4.drop j) = some v) ∧ Aside0 (p ++ v = u) ∧ Aside0 (Lib.IsBuilder 68 5 w2.heap.size w2.heap.size (Lib.byteCells (hd.data.toList ++ p)) wr) ∧ Aside0 (Below w2.heap.size w2 wr)) (fun _ v30 _ => l0_4.length - (intOf v30).toNat)
 case atStart =>
  refine ⟨0, [], u, Nat.zero_le _, rfl, ⟨A3.out⟩, ⟨rfl⟩, ⟨?_⟩, HX4⟩
  have := HI4.out
  rw [Bld.strCells_eq] at this
  rw [List.append_nil]
  exact .inr this
 case round =>
  obtain ⟨j, p, v, hj, rfl, G, PV, HI, HX⟩ := hrel
  clear HI4 HX4 hc4
  by_cases hlt : j < l0_4.length
  ·have hji : (j : Int) < (l0_4.length : Int) := by omega
   have hj0 : 0 ≤ (j : Int) := by omega
   have HBr := Aside0.mk (below_step HB2.out HX.out)
   obtain ⟨ad, eA, hx0, hx1, hx2⟩ := at_T31 HR.out (j : Int) hj0 hji
   cases eA
   replace hx0 := (HBr.out.cell (World.block_lt_of_cell? w _ hx0)).trans hx0
   replace hx1 := (HBr.out.cell (World.block_lt_of_cell? w _ hx1)).trans hx1
   replace hx2 := (HBr.out.cell (World.block_lt_of_cell? w _ hx2)).trans hx2
   rw [Int.toNat_natCast] at hx0 hx1 hx2
   have hd1 : l0_4.drop j = rd_T31 l0_4 (j : Int) :: l0_4.drop (j + 1) := by
    rw [List.drop_eq_getElem_cons hlt]
    simp [rd_T31, List.getD_eq_getElem?_getD, List.getElem?_eq_getElem hlt]
   have hg := G.out
   rw [hd1] at hg
   obtain ⟨tx, vx, htx, hvx, hev⟩ := batch_Encode.g_step _ _ _ hg
   have A4 := Aside0.mk htx
   have A5 := Aside0.mk hvx
   have A6 := Aside0.mk hev
   clear hd1 hg htx hvx hev
   go_wp2_with (((with_reducible refine gate_dst (N := 7) rfl ?_); refine box_event ?hg (N := 7) ?hd (cs := #[.int .i64 0, .int .i64 0, .string ⟨#[]⟩]) (t := 31) ?hr ?_; (case hd => rfl); (case hg => rfl); (case hr => first | (go_simp; done) | (go_simp; rfl)); intro gr hg w5 hbox hb; have BR := Aside0.mk hbox; have HB5 := Aside0.mk hb; have GR : wr.heap.size ≤ gr := (by rw [hg]; exact Nat.le_refl _); clear hb hbox hg; have hz0 : w5.cell? ⟨gr, 0, none⟩ = some (.int .i64 0) := (blk_cell BR.out 0).trans rfl; have hz1 : w5.cell? ⟨gr, 1, none⟩ = some (.int .i64 0) := (blk_cell BR.out 1).trans rfl; have hz2 : w5.cell? ⟨gr, 2, none⟩ = some (.string ⟨#[]⟩) := (blk_cell BR.out 2).trans rfl; have hf0 := blk_frozen BR.out 0; have hf1 := blk_frozen BR.out 1; have hf2 := blk_frozen BR.out 2))
   refine (batch_PutRecord.calls _ _ _ tx _ A4.out).mono ?_
   rintro e w6 ⟨rfl, hb6⟩
   have HW := Aside0.mk (below_step (below_set (j := 2) (v := .string (rd_T31 l0_4 (j : Int)).f2) (below_set (j := 1) (v := .int .i64 (rd_T31 l0_4 (j : Int)).f1) (below_set (j := 0) (v := .int .i64 (rd_T31 l0_4 (j : Int)).f0) HB5.out GR) GR) GR) hb6)
   have HX6 := Aside0.mk (below_step HX.out HW.out)
   have HI6 := Aside0.mk (Bld.IsBuilder.below HI.out HW.out)
   have hsz6 : w2.heap.size ≤ w6.heap.size := HX6.out.size
   have HL6 := Aside0.mk (show (Lib.byteCells (hd.data.toList ++ p)).length + tx.size ≤ 140737488355328 by
    have h1 := HL.out
    have h2 := congrArg List.length PV.out
    rw [A6.out] at h2
    have h3 : tx.data.toList.length = tx.size := by simp
    have h4 : hd.data.toList.length = hd.size := by simp
    simp only [Lib.byteCells, List.length_map, List.length_append] at h2 ⊢
    omega)
   clear hb6 HW HB5 hz0 hz1 hz2 hf0 hf1 hf2 BR hx0 hx1 hx2
   go_wp2_with (go_at_call 36; refine (Bld.writeString w2.heap.size w2.heap.size _ tx _ HI6.out HL6.out hsz6).mono ?_)
   rintro e w7 ⟨rfl, hi, hb⟩
   have HI7 := Aside0.mk hi
   have HX7 := Aside0.mk (HX6.out.trans hb)
   clear hi hb
   go_wp2
   go_roundw
   case rel =>
    refine ⟨j + 1, p ++ tx.data.toList, vx, by omega, by go_num, A5, ⟨?_⟩, ⟨?_⟩, HX7⟩
    ·rw [List.append_assoc, ← A6.out]; exact PV.out
    ·have := HI7.out
     rw [Bld.strCells_eq, ← Bld.byteCells_append, List.append_assoc] at this
     exact .inr this
   case measure => simp [intOf]; omega
  ·obtain rfl : j = l0_4.length := by omega
   have hji : ¬ ((l0_4.length : Nat) : Int) < ((l0_4.length : Nat) : Int) := by omega
   have hv : v = [] := by
    have := G.out
    rw [List.drop_length] at this
    exact (Option.some.inj this).symm
   subst hv
   have hszr : w2.heap.size ≤ wr.heap.size := HX.out.size
   go_wp2_with (go_at_call 37; refine (Bld.string w2.heap.size w2.heap.size _ _ HI.out hszr).mono ?_)
   rintro e w8 rfl hb8
   have HX8 := Aside0.mk (below_weaken HB2.out HB2.out.size (HX.out.trans hb8))
   clear hb8
   go_wp2
   go_ret2
   have hp : p = u := by have := PV.out; rwa [List.append_nil] at this
   refine ⟨?_, HX8.out⟩
   rw [← HE1.out, ← HE2.out, ← hp]
   rfl

/-! ### headgatelaw06_awake: function 10 -/
def headgatelaw06_awake.f (k : Nat)  : Option (Bool) := (batch_Encode.f k 3 1 2 0 ([] : List (S31))).bind fun bt123 => ((batch_Encode.f k 1 0 0 0 (([(⟨1, 2, (⟨#[97]⟩ : ByteArray)⟩ : S31)] : List (S31)))).bind fun bt128 => (if bt123.1.toList = ([6, 2, 4, 0, 0] : List UInt8) then (if bt123.2 = 0 then (if bt128.1.toList = ([2, 0, 0, 0, 2, 2, 4, 2, 97] : List UInt8) then (some (bt128.2 == 0)) else (some false)) else (some false)) else (some false)))
theorem headgatelaw06_awake.mono : ∀ k, LeO (headgatelaw06_awake.f k ) (headgatelaw06_awake.f (k + 1) ) := by
 intro  k
 unfold headgatelaw06_awake.f
 repeat' first
   | (with_reducible exact batch_Encode.mono _ _ _ _ _ _)
   | (with_reducible exact LeO.refl _)
   | (with_reducible exact LeO.none _)
   | (with_reducible refine LeO.ite ?_ ?_)
   | (with_reducible refine LeO.bind ?_ (fun _ => ?_))
   | exact batch_Encode.mono _ _ _ _ _ _
   | exact LeO.none _
   | refine LeO.ite ?_ ?_
   | refine LeO.bind ?_ (fun _ => ?_)
set_option maxHeartbeats 8000000 in
set_option maxRecDepth 100000 in
theorem headgatelaw06_awake.calls (k : Nat)  (r : Bool) (w : World) (h : headgatelaw06_awake.f k  = some r) :
  Calls Try.prog 10 #[] w fun e w' => e = .returned (.bool r) ∧ Below w.heap.size w w' := by
 have hu24 := Try.underlying24
 have hu31 := Try.underlying31
 have HB := Aside0.mk (Below.refl w.heap.size w)
 have H : ((batch_Encode.f k 3 1 2 0 ([] : List (S31))).bind fun bt123 => ((batch_Encode.f k 1 0 0 0 (([(⟨1, 2, (⟨#[97]⟩ : ByteArray)⟩ : S31)] : List (S31)))).bind fun bt128 => (if bt123.1.toList = ([6, 2, 4, 0, 0] : List UInt8) then (if bt123.2 = 0 then (if bt128.1.toList = ([2, 0, 0, 0, 2, 2, 4, 2, 97] : List UInt8) then (some (bt128.2 == 0)) else (some false)) else (some false)) else (some false)))) = some r := h
 clear h
 replace H := Option.bind_eq_some_iff.mp H
 obtain ⟨⟨t123, t124⟩, A10, H⟩ := H
 replace H : ((batch_Encode.f k 1 0 0 0 (([(⟨1, 2, (⟨#[97]⟩ : ByteArray)⟩ : S31)] : List (S31)))).bind fun bt128 => (if t123.toList = ([6, 2, 4, 0, 0] : List UInt8) then (if t124 = 0 then (if bt128.1.toList = ([2, 0, 0, 0, 2, 2, 4, 2, 97] : List UInt8) then (some (bt128.2 == 0)) else (some false)) else (some false)) else (some false))) = some r := H
 have A1 := Aside0.mk A10
 clear A10
 obtain ⟨y125, hy125⟩ : ∃ y_ : List (S31), y_ = (([(⟨1, 2, (⟨#[97]⟩ : ByteArray)⟩ : S31)] : List (S31))) := ⟨_, rfl⟩
 replace H : ((batch_Encode.f k 1 0 0 0 y125).bind fun bt128 => (if t123.toList = ([6, 2, 4, 0, 0] : List UInt8) then (if t124 = 0 then (if bt128.1.toList = ([2, 0, 0, 0, 2, 2, 4, 2, 97] : List UInt8) then (some (bt128.2 == 0)) else (some false)) else (some false)) else (some false))) = some r := by first | (rw [hy125]; with_reducible exact H) | (have H2_ := (Option.bind_some _ _).symm.trans H; rw [hy125]; with_reducible exact H2_) | (have H2_ := (Option.bind_some _ _).symm.trans H; with_reducible exact H2_) | with_reducible exact H | (rw [hy125]; exact H) | exact H
 have Ny125 := Aside0.mk hy125
 clear hy125
 replace H := Option.bind_eq_some_iff.mp H
 obtain ⟨⟨t128, t129⟩, A20, H⟩ := H
 replace H : (if t123.toList = ([6, 2, 4, 0, 0] : List UInt8) then (if t124 = 0 then (if t128.toList = ([2, 0, 0, 0, 2, 2, 4, 2, 97] : List UInt8) then (some (t129 == 0)) else (some false)) else (some false)) else (some false)) = some r := H
 have A2 := Aside0.mk A20
 clear A20
 by_cases c3 : t123.toList = ([6, 2, 4, 0, 0] : List UInt8)
 ·rw [if_pos c3] at H
  have c3b0 : (t123.toList == ([6, 2, 4, 0, 0] : List UInt8)) = true := beq_iff_eq.mpr c3
  have c3b1 : (t123.toList != ([6, 2, 4, 0, 0] : List UInt8)) = false := bne_eq_false_iff_eq.mpr c3
  clear c3
  by_cases c4 : t124 = 0
  ·rw [if_pos c4] at H
   have c4b0 : (t124 == 0) = true := beq_iff_eq.mpr c4
   have c4b1 : (t124 != 0) = false := bne_eq_false_iff_eq.mpr c4
   clear c4
   by_cases c5 : t128.toList = ([2, 0, 0, 0, 2, 2, 4, 2, 97] : List UInt8)
   ·rw [if_pos c5] at H
    have c5b0 : (t128.toList == ([2, 0, 0, 0, 2, 2, 4, 2, 97] : List UInt8)) = true := beq_iff_eq.mpr c5
    have c5b1 : (t128.toList != ([2, 0, 0, 0, 2, 2, 4, 2, 97] : List UInt8)) = false := bne_eq_false_iff_eq.mpr c5
    clear c5
    obtain rfl := Option.some.inj H
    go_enter Try.func10, Try.ntmps10
    go_wp2_with (first | ((with_reducible refine gate_callee (f := 20) rfl ?_); refine goesL_ (some 7) rfl rfl Try.func20 (by kernel_rfl) rfl #[.agg #[.int .i64 3, .int .i64 1, .int .i64 2, .int .i64 0, .slice none 0 0]] rfl (by (try simp only [List.map_toArray, List.map_cons, List.map_nil]); first | done | rfl | (simp only [List.length_drop, List.length_take]; rfl)) ?_; (refine (batch_Encode.calls k 3 1 2 0 _ _ ([] : List (S31)) t123 t124 _ ?side1 ?side2 A1.out).mono ?_); (case side1 => exact Kd.C_nil _ _); (case side2 => exact Nat.le_refl _); rintro e w6 ⟨rfl, hb⟩; refine ⟨_, rfl, ?_⟩; have n0_ := Aside0.mk (below_step (by repeat (first | (with_reducible first | exact HB.out | apply below_alloc | apply pw_below_drewN | apply below_drew1) | exact HB.out)) hb); clear HB; have HB := n0_; clear n0_; (try clear hb); (try clear hb2); (try clear hk); (try clear hi)) | ((with_reducible refine gate_dst (N := 12) rfl ?_); refine Kd.R_lit k31 _ 31 ?hg (N := 12) ?hd (xs := ([(⟨1, 2, (⟨#[97]⟩ : ByteArray)⟩ : S31)] : List (S31))) (inner := [.int .i64 1, .int .i64 2, .string (⟨#[97]⟩ : ByteArray)]) (ok := fun _ => True) (okp := fun _ => True) ?hr ?hp (fun _ hk => hk) trivial (Below.refl _ _) (Nat.le_refl _) (by simp) ?_; (case hd => rfl); (case hg => rfl); (case hr => first | (go_simp; done) | (go_simp; rfl)); (case hp => exact (Reps.c3 (show Kd.M k31 _ _ _ (⟨1, 2, (⟨#[97]⟩ : ByteArray)⟩ : S31) [.int .i64 1, .int .i64 2, .string (⟨#[97]⟩ : ByteArray)] from (k31_mkM _ _ _ (⟨1, 2, (⟨#[97]⟩ : ByteArray)⟩ : S31) )) (Reps.none _ _))); intro v126 w7 ho8 hb hg_ hnew_; clear hg_ hnew_; (first | rw [← Ny125.out] at ho8 | (simp only [Int.reduceToNat] at ho8; rw [← Ny125.out] at ho8)); have n0_ := Aside0.mk (Kd.R_lower ho8 (below_size (by repeat (first | (with_reducible first | exact HB.out | apply below_alloc | apply pw_below_drewN | apply below_drew1) | exact HB.out)))); have n1_ := Aside0.mk (below_step (by repeat (first | (with_reducible first | exact HB.out | apply below_alloc | apply pw_below_drewN | apply below_drew1) | exact HB.out)) hb); clear HB; have HO127 := n0_; have HB := n1_; clear n0_ n1_; clear hb ho8; obtain ⟨Ao9, co9, eo9⟩ := Kd.R_slice HO127.out; subst eo9) | ((with_reducible refine gate_callee (f := 20) rfl ?_); refine goesL_ (some 14) rfl rfl Try.func20 (by kernel_rfl) rfl #[.agg #[.int .i64 1, .int .i64 0, .int .i64 0, .int .i64 0, .slice Ao9 y125.length co9]] rfl (by (try simp only [List.map_toArray, List.map_cons, List.map_nil]); first | done | rfl | (simp only [List.length_drop, List.length_take]; rfl)) ?_; (with_reducible refine (batch_Encode.calls k 1 0 0 0 _ _ y125 t128 t129 _ ?side1 ?side2 A2.out).mono ?_); (case side1 => repeat (first | exact (Kd.R_reads' HO127.out).2.2 | (with_reducible refine Kd.C_alloc ?_ _) | (with_reducible refine Kd.C_drewN ?_ _) | (with_reducible refine Kd.C_drew ?_))); (case side2 => exact (Kd.R_reads' HO127.out).2.1); rintro e w10 ⟨rfl, hb⟩; refine ⟨_, rfl, ?_⟩; have n0_ := Aside0.mk (Kd.R_below (by (with_reducible repeat (first | apply Kd.R_alloc | apply Kd.R_drewN | apply Kd.R_drew)); exact HO127.out) hb); have n1_ := Aside0.mk (below_step (by repeat (first | (with_reducible first | exact HB.out | apply below_alloc | apply pw_below_drewN | apply below_drew1) | exact HB.out)) hb); clear HO127; clear HB; have HO127 := n0_; have HB := n1_; clear n0_ n1_; (try clear hb); (try clear hb2); (try clear hk); (try clear hi)))
    go_ret
    exact ⟨by first | rfl | (simp [errW_none, errW_some] <;> rfl) | (simp [*, errW_none, errW_some] <;> rfl), by repeat (first | (with_reducible first | exact HB.out | apply below_alloc | apply pw_below_drewN | apply below_drew1) | exact HB.out)⟩
   ·rw [if_neg c5] at H
    have c5b0 : (t128.toList == ([2, 0, 0, 0, 2, 2, 4, 2, 97] : List UInt8)) = false := beq_eq_false_iff_ne.mpr c5
    have c5b1 : (t128.toList != ([2, 0, 0, 0, 2, 2, 4, 2, 97] : List UInt8)) = true := bne_iff_ne.mpr c5
    obtain rfl := Option.some.inj H
    go_enter Try.func10, Try.ntmps10
    go_wp2_with (first | ((with_reducible refine gate_callee (f := 20) rfl ?_); refine goesL_ (some 7) rfl rfl Try.func20 (by kernel_rfl) rfl #[.agg #[.int .i64 3, .int .i64 1, .int .i64 2, .int .i64 0, .slice none 0 0]] rfl (by (try simp only [List.map_toArray, List.map_cons, List.map_nil]); first | done | rfl | (simp only [List.length_drop, List.length_take]; rfl)) ?_; (refine (batch_Encode.calls k 3 1 2 0 _ _ ([] : List (S31)) t123 t124 _ ?side1 ?side2 A1.out).mono ?_); (case side1 => exact Kd.C_nil _ _); (case side2 => exact Nat.le_refl _); rintro e w11 ⟨rfl, hb⟩; refine ⟨_, rfl, ?_⟩; have n0_ := Aside0.mk (below_step (by repeat (first | (with_reducible first | exact HB.out | apply below_alloc | apply pw_below_drewN | apply below_drew1) | exact HB.out)) hb); clear HB; have HB := n0_; clear n0_; (try clear hb); (try clear hb2); (try clear hk); (try clear hi)) | ((with_reducible refine gate_dst (N := 12) rfl ?_); refine Kd.R_lit k31 _ 31 ?hg (N := 12) ?hd (xs := ([(⟨1, 2, (⟨#[97]⟩ : ByteArray)⟩ : S31)] : List (S31))) (inner := [.int .i64 1, .int .i64 2, .string (⟨#[97]⟩ : ByteArray)]) (ok := fun _ => True) (okp := fun _ => True) ?hr ?hp (fun _ hk => hk) trivial (Below.refl _ _) (Nat.le_refl _) (by simp) ?_; (case hd => rfl); (case hg => rfl); (case hr => first | (go_simp; done) | (go_simp; rfl)); (case hp => exact (Reps.c3 (show Kd.M k31 _ _ _ (⟨1, 2, (⟨#[97]⟩ : ByteArray)⟩ : S31) [.int .i64 1, .int .i64 2, .string (⟨#[97]⟩ : ByteArray)] from (k31_mkM _ _ _ (⟨1, 2, (⟨#[97]⟩ : ByteArray)⟩ : S31) )) (Reps.none _ _))); intro v126 w12 ho13 hb hg_ hnew_; clear hg_ hnew_; (first | rw [← Ny125.out] at ho13 | (simp only [Int.reduceToNat] at ho13; rw [← Ny125.out] at ho13)); have n0_ := Aside0.mk (Kd.R_lower ho13 (below_size (by repeat (first | (with_reducible first | exact HB.out | apply below_alloc | apply pw_below_drewN | apply below_drew1) | exact HB.out)))); have n1_ := Aside0.mk (below_step (by repeat (first | (with_reducible first | exact HB.out | apply below_alloc | apply pw_below_drewN | apply below_drew1) | exact HB.out)) hb); clear HB; have HO127 := n0_; have HB := n1_; clear n0_ n1_; clear hb ho13; obtain ⟨Ao14, co14, eo14⟩ := Kd.R_slice HO127.out; subst eo14) | ((with_reducible refine gate_callee (f := 20) rfl ?_); refine goesL_ (some 14) rfl rfl Try.func20 (by kernel_rfl) rfl #[.agg #[.int .i64 1, .int .i64 0, .int .i64 0, .int .i64 0, .slice Ao14 y125.length co14]] rfl (by (try simp only [List.map_toArray, List.map_cons, List.map_nil]); first | done | rfl | (simp only [List.length_drop, List.length_take]; rfl)) ?_; (with_reducible refine (batch_Encode.calls k 1 0 0 0 _ _ y125 t128 t129 _ ?side1 ?side2 A2.out).mono ?_); (case side1 => repeat (first | exact (Kd.R_reads' HO127.out).2.2 | (with_reducible refine Kd.C_alloc ?_ _) | (with_reducible refine Kd.C_drewN ?_ _) | (with_reducible refine Kd.C_drew ?_))); (case side2 => exact (Kd.R_reads' HO127.out).2.1); rintro e w15 ⟨rfl, hb⟩; refine ⟨_, rfl, ?_⟩; have n0_ := Aside0.mk (Kd.R_below (by (with_reducible repeat (first | apply Kd.R_alloc | apply Kd.R_drewN | apply Kd.R_drew)); exact HO127.out) hb); have n1_ := Aside0.mk (below_step (by repeat (first | (with_reducible first | exact HB.out | apply below_alloc | apply pw_below_drewN | apply below_drew1) | exact HB.out)) hb); clear HO127; clear HB; have HO127 := n0_; have HB := n1_; clear n0_ n1_; (try clear hb); (try clear hb2); (try clear hk); (try clear hi)))
    go_ret
    exact ⟨by first | rfl | (simp [errW_none, errW_some] <;> rfl) | (simp [*, errW_none, errW_some] <;> rfl), by repeat (first | (with_reducible first | exact HB.out | apply below_alloc | apply pw_below_drewN | apply below_drew1) | exact HB.out)⟩
  ·rw [if_neg c4] at H
   have c4b0 : (t124 == 0) = false := beq_eq_false_iff_ne.mpr c4
   have c4b1 : (t124 != 0) = true := bne_iff_ne.mpr c4
   obtain rfl := Option.some.inj H
   go_enter Try.func10, Try.ntmps10
   go_wp2_with (first | ((with_reducible refine gate_callee (f := 20) rfl ?_); refine goesL_ (some 7) rfl rfl Try.func20 (by kernel_rfl) rfl #[.agg #[.int .i64 3, .int .i64 1, .int .i64 2, .int .i64 0, .slice none 0 0]] rfl (by (try simp only [List.map_toArray, List.map_cons, List.map_nil]); first | done | rfl | (simp only [List.length_drop, List.length_take]; rfl)) ?_; (refine (batch_Encode.calls k 3 1 2 0 _ _ ([] : List (S31)) t123 t124 _ ?side1 ?side2 A1.out).mono ?_); (case side1 => exact Kd.C_nil _ _); (case side2 => exact Nat.le_refl _); rintro e w16 ⟨rfl, hb⟩; refine ⟨_, rfl, ?_⟩; have n0_ := Aside0.mk (below_step (by repeat (first | (with_reducible first | exact HB.out | apply below_alloc | apply pw_below_drewN | apply below_drew1) | exact HB.out)) hb); clear HB; have HB := n0_; clear n0_; (try clear hb); (try clear hb2); (try clear hk); (try clear hi)) | ((with_reducible refine gate_dst (N := 12) rfl ?_); refine Kd.R_lit k31 _ 31 ?hg (N := 12) ?hd (xs := ([(⟨1, 2, (⟨#[97]⟩ : ByteArray)⟩ : S31)] : List (S31))) (inner := [.int .i64 1, .int .i64 2, .string (⟨#[97]⟩ : ByteArray)]) (ok := fun _ => True) (okp := fun _ => True) ?hr ?hp (fun _ hk => hk) trivial (Below.refl _ _) (Nat.le_refl _) (by simp) ?_; (case hd => rfl); (case hg => rfl); (case hr => first | (go_simp; done) | (go_simp; rfl)); (case hp => exact (Reps.c3 (show Kd.M k31 _ _ _ (⟨1, 2, (⟨#[97]⟩ : ByteArray)⟩ : S31) [.int .i64 1, .int .i64 2, .string (⟨#[97]⟩ : ByteArray)] from (k31_mkM _ _ _ (⟨1, 2, (⟨#[97]⟩ : ByteArray)⟩ : S31) )) (Reps.none _ _))); intro v126 w17 ho18 hb hg_ hnew_; clear hg_ hnew_; (first | rw [← Ny125.out] at ho18 | (simp only [Int.reduceToNat] at ho18; rw [← Ny125.out] at ho18)); have n0_ := Aside0.mk (Kd.R_lower ho18 (below_size (by repeat (first | (with_reducible first | exact HB.out | apply below_alloc | apply pw_below_drewN | apply below_drew1) | exact HB.out)))); have n1_ := Aside0.mk (below_step (by repeat (first | (with_reducible first | exact HB.out | apply below_alloc | apply pw_below_drewN | apply below_drew1) | exact HB.out)) hb); clear HB; have HO127 := n0_; have HB := n1_; clear n0_ n1_; clear hb ho18; obtain ⟨Ao19, co19, eo19⟩ := Kd.R_slice HO127.out; subst eo19) | ((with_reducible refine gate_callee (f := 20) rfl ?_); refine goesL_ (some 14) rfl rfl Try.func20 (by kernel_rfl) rfl #[.agg #[.int .i64 1, .int .i64 0, .int .i64 0, .int .i64 0, .slice Ao19 y125.length co19]] rfl (by (try simp only [List.map_toArray, List.map_cons, List.map_nil]); first | done | rfl | (simp only [List.length_drop, List.length_take]; rfl)) ?_; (with_reducible refine (batch_Encode.calls k 1 0 0 0 _ _ y125 t128 t129 _ ?side1 ?side2 A2.out).mono ?_); (case side1 => repeat (first | exact (Kd.R_reads' HO127.out).2.2 | (with_reducible refine Kd.C_alloc ?_ _) | (with_reducible refine Kd.C_drewN ?_ _) | (with_reducible refine Kd.C_drew ?_))); (case side2 => exact (Kd.R_reads' HO127.out).2.1); rintro e w20 ⟨rfl, hb⟩; refine ⟨_, rfl, ?_⟩; have n0_ := Aside0.mk (Kd.R_below (by (with_reducible repeat (first | apply Kd.R_alloc | apply Kd.R_drewN | apply Kd.R_drew)); exact HO127.out) hb); have n1_ := Aside0.mk (below_step (by repeat (first | (with_reducible first | exact HB.out | apply below_alloc | apply pw_below_drewN | apply below_drew1) | exact HB.out)) hb); clear HO127; clear HB; have HO127 := n0_; have HB := n1_; clear n0_ n1_; (try clear hb); (try clear hb2); (try clear hk); (try clear hi)))
   go_ret
   exact ⟨by first | rfl | (simp [errW_none, errW_some] <;> rfl) | (simp [*, errW_none, errW_some] <;> rfl), by repeat (first | (with_reducible first | exact HB.out | apply below_alloc | apply pw_below_drewN | apply below_drew1) | exact HB.out)⟩
 ·rw [if_neg c3] at H
  have c3b0 : (t123.toList == ([6, 2, 4, 0, 0] : List UInt8)) = false := beq_eq_false_iff_ne.mpr c3
  have c3b1 : (t123.toList != ([6, 2, 4, 0, 0] : List UInt8)) = true := bne_iff_ne.mpr c3
  obtain rfl := Option.some.inj H
  go_enter Try.func10, Try.ntmps10
  go_wp2_with (first | ((with_reducible refine gate_callee (f := 20) rfl ?_); refine goesL_ (some 7) rfl rfl Try.func20 (by kernel_rfl) rfl #[.agg #[.int .i64 3, .int .i64 1, .int .i64 2, .int .i64 0, .slice none 0 0]] rfl (by (try simp only [List.map_toArray, List.map_cons, List.map_nil]); first | done | rfl | (simp only [List.length_drop, List.length_take]; rfl)) ?_; (refine (batch_Encode.calls k 3 1 2 0 _ _ ([] : List (S31)) t123 t124 _ ?side1 ?side2 A1.out).mono ?_); (case side1 => exact Kd.C_nil _ _); (case side2 => exact Nat.le_refl _); rintro e w21 ⟨rfl, hb⟩; refine ⟨_, rfl, ?_⟩; have n0_ := Aside0.mk (below_step (by repeat (first | (with_reducible first | exact HB.out | apply below_alloc | apply pw_below_drewN | apply below_drew1) | exact HB.out)) hb); clear HB; have HB := n0_; clear n0_; (try clear hb); (try clear hb2); (try clear hk); (try clear hi)) | ((with_reducible refine gate_dst (N := 12) rfl ?_); refine Kd.R_lit k31 _ 31 ?hg (N := 12) ?hd (xs := ([(⟨1, 2, (⟨#[97]⟩ : ByteArray)⟩ : S31)] : List (S31))) (inner := [.int .i64 1, .int .i64 2, .string (⟨#[97]⟩ : ByteArray)]) (ok := fun _ => True) (okp := fun _ => True) ?hr ?hp (fun _ hk => hk) trivial (Below.refl _ _) (Nat.le_refl _) (by simp) ?_; (case hd => rfl); (case hg => rfl); (case hr => first | (go_simp; done) | (go_simp; rfl)); (case hp => exact (Reps.c3 (show Kd.M k31 _ _ _ (⟨1, 2, (⟨#[97]⟩ : ByteArray)⟩ : S31) [.int .i64 1, .int .i64 2, .string (⟨#[97]⟩ : ByteArray)] from (k31_mkM _ _ _ (⟨1, 2, (⟨#[97]⟩ : ByteArray)⟩ : S31) )) (Reps.none _ _))); intro v126 w22 ho23 hb hg_ hnew_; clear hg_ hnew_; (first | rw [← Ny125.out] at ho23 | (simp only [Int.reduceToNat] at ho23; rw [← Ny125.out] at ho23)); have n0_ := Aside0.mk (Kd.R_lower ho23 (below_size (by repeat (first | (with_reducible first | exact HB.out | apply below_alloc | apply pw_below_drewN | apply below_drew1) | exact HB.out)))); have n1_ := Aside0.mk (below_step (by repeat (first | (with_reducible first | exact HB.out | apply below_alloc | apply pw_below_drewN | apply below_drew1) | exact HB.out)) hb); clear HB; have HO127 := n0_; have HB := n1_; clear n0_ n1_; clear hb ho23; obtain ⟨Ao24, co24, eo24⟩ := Kd.R_slice HO127.out; subst eo24) | ((with_reducible refine gate_callee (f := 20) rfl ?_); refine goesL_ (some 14) rfl rfl Try.func20 (by kernel_rfl) rfl #[.agg #[.int .i64 1, .int .i64 0, .int .i64 0, .int .i64 0, .slice Ao24 y125.length co24]] rfl (by (try simp only [List.map_toArray, List.map_cons, List.map_nil]); first | done | rfl | (simp only [List.length_drop, List.length_take]; rfl)) ?_; (with_reducible refine (batch_Encode.calls k 1 0 0 0 _ _ y125 t128 t129 _ ?side1 ?side2 A2.out).mono ?_); (case side1 => repeat (first | exact (Kd.R_reads' HO127.out).2.2 | (with_reducible refine Kd.C_alloc ?_ _) | (with_reducible refine Kd.C_drewN ?_ _) | (with_reducible refine Kd.C_drew ?_))); (case side2 => exact (Kd.R_reads' HO127.out).2.1); rintro e w25 ⟨rfl, hb⟩; refine ⟨_, rfl, ?_⟩; have n0_ := Aside0.mk (Kd.R_below (by (with_reducible repeat (first | apply Kd.R_alloc | apply Kd.R_drewN | apply Kd.R_drew)); exact HO127.out) hb); have n1_ := Aside0.mk (below_step (by repeat (first | (with_reducible first | exact HB.out | apply below_alloc | apply pw_below_drewN | apply below_drew1) | exact HB.out)) hb); clear HO127; clear HB; have HO127 := n0_; have HB := n1_; clear n0_ n1_; (try clear hb); (try clear hb2); (try clear hk); (try clear hi)))
  go_ret
  exact ⟨by first | rfl | (simp [errW_none, errW_some] <;> rfl) | (simp [*, errW_none, errW_some] <;> rfl), by repeat (first | (with_reducible first | exact HB.out | apply below_alloc | apply pw_below_drewN | apply below_drew1) | exact HB.out)⟩

/-! ### headgateref06_In: function 27 -/
def headgateref06_In.f (a0 : Int) : Option (Bool) := if a0 ≥ 0 then (some (decide (a0 ≤ 1099511627776))) else (some false)
set_option maxHeartbeats 8000000 in
set_option maxRecDepth 100000 in
theorem headgateref06_In.calls (a0 : Int) (r : Bool) (w : World) (h : headgateref06_In.f a0 = some r) :
  Calls Try.prog 27 #[.int .i64 a0] w fun e w' => e = .returned (.bool r) ∧ Drawn0 w w' := by
 have H : (if a0 ≥ 0 then (some (decide (a0 ≤ 1099511627776))) else (some false)) = some r := h
 clear h
 by_cases c2 : a0 ≥ 0
 ·rw [if_pos c2] at H
  have c2b0 : decide (0 ≤ a0) = true := decide_eq_true c2
  clear c2
  obtain rfl := Option.some.inj H
  go_enter Try.func27, Try.ntmps27
  go_wp2
  go_ret
  exact ⟨by first | rfl | (simp; done) | (simp [*]; done), by repeat (first | exact Drawn0.refl _ | apply Drawn0.step)⟩
 ·rw [if_neg c2] at H
  have c2b0 : decide (0 ≤ a0) = false := decide_eq_false c2
  clear c2
  obtain rfl := Option.some.inj H
  go_enter Try.func27, Try.ntmps27
  go_wp2
  go_ret
  exact ⟨by first | rfl | (simp; done) | (simp [*]; done), by repeat (first | exact Drawn0.refl _ | apply Drawn0.step)⟩

end Go.Proofs.Ythmckblcckcaaaa.P
