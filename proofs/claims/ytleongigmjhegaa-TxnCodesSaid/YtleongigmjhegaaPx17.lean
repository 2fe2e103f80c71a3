-- Written by wip/mk.py of this repo: the kit's print program, with contracts of our own among its functions.
import Derived.Test.YtleongigmjhegaaPx0
import Derived.Test.YtleongigmjhegaaPx3
namespace Go.Proofs.Ytleongigmjhegaa.P
open Go.RowKit Go.Proofs.YtleongigmjhegaaW.PrintWords Go.Proofs.YtleongigmjhegaaW.PrintLast Go.Proofs.YtleongigmjhegaaW.PrintMore
attribute [local go_sem] max2_int min2_int max_two min_two max_three min_three max_four min_four   -- for this text's walks alone
set_option linter.unusedVariables false
set_option linter.unusedSimpArgs false

-- NOT PRINTED: function 51 (abi_NoEscape)

-- NOT PRINTED: function 49 (strings_Builder_copyCheck)

-- NOT PRINTED: function 42 (strings_Builder_WriteString)

/-! ### varint_Put: function 43 -/
def varint_Put.f (a0 : Int) : Option ByteArray := if Vm.I64 a0 then some (Vm.bs (Vm.enc a0)) else none
theorem varint_Put.bits_xor0 (a : Nat) (ha : a < 18446744073709551616) : Go.bits .xor .u64 (a : Int) 0 = (a : Int) := by
  have e : BitVec.ofInt 64 (a : Int) ^^^ BitVec.ofInt 64 0 = BitVec.ofNat 64 a := by simp
  unfold Go.bits
  show IntKind.u64.wrap ((BitVec.ofInt 64 (a : Int) ^^^ BitVec.ofInt 64 0).toNat : Int) = _
  rw [e, BitVec.toNat_ofNat, IntKind.wrap_u64]
  omega
theorem varint_Put.bits_xor1 (a : Nat) (ha : a < 18446744073709551616) : Go.bits .xor .u64 (a : Int) 18446744073709551615 = ((18446744073709551615 - a : Nat) : Int) := by
  have e : BitVec.ofInt 64 (a : Int) ^^^ BitVec.ofInt 64 18446744073709551615 = ~~~ BitVec.ofNat 64 a := by
    rw [show BitVec.ofInt 64 18446744073709551615 = BitVec.allOnes 64 by decide, BitVec.xor_allOnes, BitVec.ofInt_natCast]
  unfold Go.bits
  show IntKind.u64.wrap ((BitVec.ofInt 64 (a : Int) ^^^ BitVec.ofInt 64 18446744073709551615).toNat : Int) = _
  rw [e, BitVec.toNat_not, BitVec.toNat_ofNat, IntKind.wrap_u64]
  omega
theorem varint_Put.zz_eq (n : Int) (h : Vm.I64 n) : Go.bits .xor .u64 (IntKind.u64.wrap (IntKind.u64.wrap n * 2)) (IntKind.u64.wrap (n / 9223372036854775808)) = (Vm.zz n : Int) := by
  unfold Vm.I64 at h
  rw [IntKind.wrap_u64, IntKind.wrap_u64, IntKind.wrap_u64]
  by_cases h0 : n < 0
  · have e1 : (n / 9223372036854775808) % 18446744073709551616 = 18446744073709551615 := by omega
    obtain ⟨a, ha⟩ := Int.eq_ofNat_of_zero_le (show 0 ≤ n % 18446744073709551616 * 2 % 18446744073709551616 by omega)
    rw [e1, ha, varint_Put.bits_xor1 a (by omega)]
    unfold Vm.zz
    rw [if_pos h0]
    omega
  · have e1 : (n / 9223372036854775808) % 18446744073709551616 = 0 := by omega
    obtain ⟨a, ha⟩ := Int.eq_ofNat_of_zero_le (show 0 ≤ n % 18446744073709551616 * 2 % 18446744073709551616 by omega)
    rw [e1, ha, varint_Put.bits_xor0 a (by omega)]
    unfold Vm.zz
    rw [if_neg h0]
    omega
theorem varint_Put.or128 (v : Nat) : Go.bits .or .u8 ((v : Int) % 256) 128 = ((v % 128 + 128 : Nat) : Int) := by
  have key : ∀ a : Fin 256, Go.bits .or .u8 ((a.val : Nat) : Int) 128 = ((a.val % 128 + 128 : Nat) : Int) := by decide +kernel
  have := key ⟨v % 256, by omega⟩
  simp only at this
  rw [show (v : Int) % 256 = ((v % 256 : Nat) : Int) by omega, this]
  omega
set_option maxRecDepth 100000 in
theorem varint_Put.cut (b j : Nat) (hj : j < 10) (W : World) : (Instr.sliceAt 93 (.pointer (some ⟨b, 0, none⟩)) none (some (.int .i64 ((j : Int) + 1))) none).run Try.prog W = .ok (.slice (some ⟨b, 0, none⟩) (j + 1) 10) W := by
  have hl : Try.prog.arrayLen 93 = 10 := by kernel_rfl
  have hs : ∀ W : World, (sizeOf (Try.prog.elem 93)).run Try.prog W = .ok 1 W := fun W => by rfl
  rw [run_sliceAt_array_h W 93 _ Try.underlying93 .i64 _ (by omega) (by rw [hl]; omega), hs, hl]
  have e : ((j : Int) + 1).toNat = j + 1 := by omega
  simp [Result.andThen, slicedAt, e, Addr.add]
theorem varint_Put.told (W : World) (base b j : Nat) (hj : j < 10) (pre : List UInt8) (xs : List Int) (v : Nat) (hv : v < 256) (hp : pre.length = j) (hl : xs.length = 10) (ht : xs.take j = pre.map fun c => (c.toNat : Int))
    (ho : W.ownsRow base 93 1 (.slice (some ⟨b, 0, none⟩) 10 10) 10 (nums .u8 xs)) :
    (convert 78 9 (.slice (some ⟨b, 0, none⟩) (j + 1) 10)).run Try.prog (W.setCell ⟨b, j, none⟩ (.int .u8 (v : Int))) = .ok (.string (Vm.bs (pre ++ [UInt8.ofNat v]))) (W.setCell ⟨b, j, none⟩ (.int .u8 (v : Int))) := by
  have hst := (own_store ho (j : Int) (v : Int)).1
  rw [Int.toNat_natCast] at hst
  have hx : ((xs.set j (v : Int)).take (j + 1)) = (pre ++ [UInt8.ofNat v]).map fun c => (c.toNat : Int) := by
    rw [List.take_succ_eq_append_getElem (by simp; omega), List.take_set_of_le (by omega), ht]
    simp [Vm.toNat_ofNat_lt hv]
  rw [run_convert_bytes_arg _ 78 5 Try.underlying78 Try.underlying5 b 0 (j + 1) 10 ((xs.set j (v : Int)).take (j + 1)) (by simp; omega) (fun i hi => ?_) 9 Try.underlying9]
  · rw [hx, Vm.strOfNums_bs, List.map_map]
    congr 3
    have : ((fun n : Int => UInt8.ofNat n.toNat) ∘ fun c : UInt8 => (c.toNat : Int)) = id := by
      funext c
      simp
    rw [this, List.map_id]
  · have hc := (own_at hst (i : Int) (by omega) (by omega)).1
    rw [Int.toNat_natCast] at hc
    rw [Nat.zero_add, hc]
    simp [rd, List.getD_eq_getElem?_getD, List.getElem?_take, hi]
set_option maxHeartbeats 8000000 in
set_option maxRecDepth 100000 in
theorem varint_Put.calls (a0 : Int) (r : ByteArray) (w : World) (h : varint_Put.f a0 = some r) :
    Calls Try.prog 43 #[.int .i64 a0] w fun e w' => e = .returned (.string r) ∧ Below w.heap.size w w' := by
  unfold varint_Put.f at h
  split at h
  case isFalse => cases h
  rename_i hn
  have hr : r = Vm.bs (Vm.enc a0) := by injection h with h; exact h.symm
  clear h
  have hz := Lib.hid (varint_Put.zz_eq a0 hn)
  have hzl := Lib.hid (Vm.zz_lt.2 hn)
  have HR := Lib.hid hr
  clear hr hn
  go_enter Try.func43, Try.ntmps43
  go_wp2
  go_loopw [3, 5] (fun u k wr => ∃ (j f v : Nat) (pre : List UInt8) (xs : List Int), j + f = 9 ∧ u = .int .u64 v ∧ k = .int .i64 j ∧ v < 2 * 128 ^ f ∧ Aside0 (Vm.enc a0 = pre ++ Vm.sev f v) ∧ Aside0 (pre.length = j) ∧ Aside0 (xs.length = 10) ∧ Aside0 (xs.take j = pre.map fun b => (b.toNat : Int)) ∧ Aside0 (wr.ownsRow w.heap.size 93 1 (.slice (some ⟨w.heap.size, 0, none⟩) 10 10) 10 (nums .u8 xs)) ∧ Aside0 (Below w.heap.size w wr)) (fun _ k _ => (10 - intOf k).toNat)
  case atStart =>
    exact ⟨0, 9, Vm.zz a0, [], List.replicate 10 0, rfl, by rw [hz.out], rfl, hzl.out, ⟨rfl⟩, ⟨rfl⟩, ⟨rfl⟩, ⟨rfl⟩, ⟨World.ownsRow_lit (base := w.heap.size) (e := 93) (size := 1) w (nums .u8 (List.replicate 10 0)).toArray 10 (Nat.le_refl _) (by decide) (by simp [nums])⟩, ⟨below_alloc (Below.refl _ _) _⟩⟩
  case round =>
    obtain ⟨j, f, v, pre, xs, hj, rfl, rfl, hv, HE, HP, HL, HT, HO, HB⟩ := hrel
    have hj10 : j < 10 := by omega
    have hc := own_at HO.out (j : Int) (by omega) (by omega)
    rw [Int.toNat_natCast] at hc
    obtain ⟨hc1, hc2⟩ := hc
    by_cases hlt : 128 ≤ v
    · have hor := varint_Put.or128 v
      have hf : 0 < f := by
        rcases Nat.eq_zero_or_pos f with h0 | h0
        · subst h0; omega
        · exact h0
      go_wp2
      go_roundw
      case rel =>
        obtain ⟨f, rfl⟩ : ∃ m, f = m + 1 := ⟨f - 1, by omega⟩
        have hs : 2 * 128 ^ (f + 1) = 128 * (2 * 128 ^ f) := by rw [Nat.pow_succ]; omega
        have hst := own_store HO.out (j : Int) ((v : Int) % 128 + 128)
        rw [Int.toNat_natCast] at hst
        have he : (v : Int) % 128 + 128 = ((UInt8.ofNat (v % 128 + 128)).toNat : Int) := by rw [Vm.toNat_ofNat_lt (by omega)]; omega
        refine ⟨j + 1, f, v / 128, pre ++ [UInt8.ofNat (v % 128 + 128)], xs.set j ((v : Int) % 128 + 128), by omega, congrArg (Value.int .u64) (by omega), congrArg (Value.int .i64) (by omega), by omega, ⟨?_⟩, ⟨by simp [HP.out]⟩, ⟨by simp [HL.out]⟩, ⟨?_⟩, ⟨hst.1⟩, ⟨?_⟩⟩
        · rw [HE.out, Vm.sev_succ, if_neg (by omega)]; simp
        · rw [List.take_succ_eq_append_getElem (by simp [HL.out]; omega), List.take_set_of_le (by omega), HT.out]
          rw [List.getElem_set_self, List.map_append, he]
          rfl
        · exact pw_below_grown HB.out _ HB.out.size hst.2 (fun k hk => by injection hk with hk; omega)
      case measure => simp [intOf]; omega
    · have kb := varint_Put.told wr w.heap.size w.heap.size j hj10 pre xs v (by omega) HP.out HL.out HT.out HO.out
      have ks := varint_Put.cut w.heap.size j hj10
      have hr : Vm.bs (pre ++ [UInt8.ofNat v]) = r := by
        rw [HR.out, HE.out]
        congr 2
        cases f with
        | zero => rfl
        | succ f => rw [Vm.sev_succ, if_pos (by omega)]
      rw [hr] at kb
      have hb : Below w.heap.size w (wr.setCell ⟨w.heap.size, j, none⟩ (.int .u8 v)) := by
        have hst := own_store HO.out (j : Int) (v : Int)
        rw [Int.toNat_natCast] at hst
        exact pw_below_grown HB.out _ HB.out.size hst.2 (fun k hk => by injection hk with hk; omega)
      have HBN := Aside0.mk hb
      clear hb hr
      go_wp2
      go_ret
      exact ⟨rfl, HBN.out⟩

-- NOT PRINTED: function 44 (strings_Builder_String)

/-! ### varint_PutAll: function 32 -/
def varint_PutAll.f (l0 : List Int) : Option ByteArray := if l0.length ≤ 1099511627776 ∧ ∀ n ∈ l0, Vm.I64 n then some (Vm.bs (l0.flatMap Vm.enc)) else none
theorem varint_PutAll.len (l : List Int) : (l.flatMap Vm.enc).length ≤ 10 * l.length := by
  induction l with
  | nil => simp
  | cons a l ih => have := (Vm.enc_len a).2; simp only [List.flatMap_cons, List.length_append, List.length_cons]; omega
theorem varint_PutAll.snoc (l : List Int) (j : Nat) (h : j < l.length) : (l.take (j + 1)).flatMap Vm.enc = (l.take j).flatMap Vm.enc ++ Vm.enc (rd l (j : Int)) := by
  rw [List.take_succ_eq_append_getElem h, List.flatMap_append]
  simp [rd, List.getD_eq_getElem?_getD, List.getElem?_eq_getElem h]
set_option maxHeartbeats 8000000 in
set_option maxRecDepth 100000 in
theorem varint_PutAll.calls (A0 : Option Addr) (c0 : Nat) (l0 : List Int) (r : ByteArray) (w : World) (hr0 : Kd.C (Kd.int .i64) w A0 l0.length l0) (hc0 : l0.length ≤ c0) (h : varint_PutAll.f l0 = some r) :
    Calls Try.prog 32 #[.slice A0 l0.length c0] w fun e w' => e = .returned (.string r) ∧ Below w.heap.size w w' := by
  unfold varint_PutAll.f at h
  split at h
  case isFalse => cases h
  rename_i hn
  obtain ⟨hlen, hall⟩ := hn
  have HR := Lib.hid (Option.some.inj h)
  have HALL := Lib.hid hall
  have HC := Aside0.mk hr0
  clear h hall hr0
  go_enter Try.func32, Try.ntmps32
  go_wp2
  go_loopw [8] (fun v8 wr => ∃ j : Nat, j ≤ l0.length ∧ v8 = .int .i64 j ∧ Aside0 (Lib.IsBuilder 80 5 w.heap.size w.heap.size (Lib.byteCells ((l0.take j).flatMap Vm.enc)) wr) ∧ Aside0 (Below w.heap.size w wr)) (fun v8 _ => l0.length - (intOf v8).toNat)
  case atStart =>
    exact ⟨0, Nat.zero_le _, rfl, ⟨Lib.fresh_isBuilder _ _ w⟩, ⟨below_alloc (Below.refl _ _) _⟩⟩
  case round =>
    obtain ⟨j, hj, rfl, HI, HB⟩ := hrel
    have hBw := HB.out.size
    have hl := varint_PutAll.len (l0.take j)
    have hlt := List.length_take_le j l0
    by_cases hlt : j < l0.length
    · obtain ⟨ad, rfl, hcell⟩ := Kd.at_int HC.out (j : Int) (by omega) (by omega)
      replace hcell := (HB.out.cell (World.block_lt_of_cell? w _ hcell)).trans hcell
      rw [Int.toNat_natCast] at hcell
      have hmem : Vm.I64 (rd l0 (j : Int)) := HALL.out _ (by simp [rd, List.getD_eq_getElem?_getD, List.getElem?_eq_getElem hlt])
      have hput : varint_Put.f (rd l0 (j : Int)) = some (Vm.bs (Vm.enc (rd l0 (j : Int)))) := if_pos hmem
      have HP := Lib.hid hput
      have henc := (Vm.enc_len (rd l0 (j : Int))).2
      have hl2 : (Lib.byteCells ((l0.take j).flatMap Vm.enc)).length + (Vm.bs (Vm.enc (rd l0 (j : Int)))).size ≤ 140737488355328 := by simp only [Lib.byteCells, List.length_map, Vm.size_bs]; omega
      have HL2 := Lib.hid hl2
      clear hput hl2
      go_wp2_with (go_at_call 43; refine (varint_Put.calls (rd l0 (j : Int)) _ _ HP.out).mono ?_)
      rintro e w1 ⟨rfl, hb1⟩
      have HI1 := Aside0.mk (Bld.IsBuilder.below HI.out hb1)
      have HB1 := Aside0.mk (below_then HB.out hBw hb1)
      have hsz1 := HB1.out.size
      clear hb1
      go_wp2_with (go_at_call 42; refine (Bld.writeString w.heap.size w.heap.size _ _ _ HI1.out HL2.out hsz1).mono ?_)
      rintro e w2 ⟨rfl, hi2, hb2⟩
      have HB2 := Aside0.mk (HB1.out.trans hb2)
      have HI2 := Aside0.mk hi2
      clear hi2 hb2
      go_wp2
      go_roundw
      case rel =>
        refine ⟨j + 1, by omega, by go_num, ⟨?_⟩, HB2⟩
        rw [varint_PutAll.snoc _ _ hlt, Bld.byteCells_append]
        have := HI2.out
        rw [Bld.strCells_eq, Vm.data_bs] at this
        exact .inr this
      case measure => simp [intOf]; omega
    · obtain rfl : j = l0.length := by omega
      go_wp2_with (go_at_call 44; refine (Bld.string w.heap.size w.heap.size _ _ HI.out hBw).mono ?_)
      rintro e w2 ⟨rfl, hb2⟩
      have HB2 := Aside0.mk (HB.out.trans hb2)
      clear hb2
      go_wp2
      go_ret
      refine ⟨?_, HB2.out⟩
      rw [← HR.out]
      rfl

/-! ### txn_Encode: function 19 -/
def txn_Encode.f (a0_0 : Int) (a0_1 : Int) (a0_2 : Int) : Option (ByteArray × Int) := (txn_Check.f a0_0 a0_1 a0_2).bind fun t309 => (if t309 = 0 then ((varint_PutAll.f (([a0_0, a0_1, a0_2] : List Int))).bind fun t313 => (some (t313, 0))) else (some ((⟨#[]⟩ : ByteArray), t309)))
set_option maxHeartbeats 8000000 in
set_option maxRecDepth 100000 in
theorem txn_Encode.calls (a0_0 : Int) (a0_1 : Int) (a0_2 : Int) (r1 : ByteArray) (r2 : Int) (w : World) (h : txn_Encode.f a0_0 a0_1 a0_2 = some (r1, r2)) :
    Calls Try.prog 19 #[.agg #[.int .i64 a0_0, .int .i64 a0_1, .int .i64 a0_2]] w fun e w' => e = .returned (.tuple #[.string r1, .int .i64 r2]) ∧ Below w.heap.size w w' := by
  have hu24 := Try.underlying24
  have HB := Aside0.mk (Below.refl w.heap.size w)
  have H : ((txn_Check.f a0_0 a0_1 a0_2).bind fun t309 => (if t309 = 0 then ((varint_PutAll.f (([a0_0, a0_1, a0_2] : List Int))).bind fun t313 => (some (t313, 0))) else (some ((⟨#[]⟩ : ByteArray), t309)))) = some (r1, r2) := h
  clear h
  replace H := Option.bind_eq_some_iff.mp H
  obtain ⟨t309, A20, H⟩ := H
  replace H : (if t309 = 0 then ((varint_PutAll.f (([a0_0, a0_1, a0_2] : List Int))).bind fun t313 => (some (t313, 0))) else (some ((⟨#[]⟩ : ByteArray), t309))) = some (r1, r2) := H
  have A2 := Aside0.mk A20
  clear A20
  by_cases c3 : t309 = 0
  · rw [if_pos c3] at H
    have c3b0 : (t309 == 0) = true := beq_iff_eq.mpr c3
    have c3b1 : (t309 != 0) = false := bne_eq_false_iff_eq.mpr c3
    clear c3
    obtain ⟨y310, hy310⟩ : ∃ y_ : List Int, y_ = (([a0_0, a0_1, a0_2] : List Int)) := ⟨_, rfl⟩
    replace H : ((varint_PutAll.f y310).bind fun t313 => (some (t313, 0))) = some (r1, r2) := by first | (rw [hy310]; with_reducible exact H) | (have H2_ := (Option.bind_some _ _).symm.trans H; rw [hy310]; with_reducible exact H2_) | (have H2_ := (Option.bind_some _ _).symm.trans H; with_reducible exact H2_) | with_reducible exact H | (rw [hy310]; exact H) | exact H
    have Ny310 := Aside0.mk hy310
    clear hy310
    replace H := Option.bind_eq_some_iff.mp H
    obtain ⟨t313, A40, H⟩ := H
    replace H : (some (t313, 0)) = some (r1, r2) := H
    have A4 := Aside0.mk A40
    clear A40
    simp only [Option.some.injEq, Prod.mk.injEq] at H
    obtain ⟨rfl, rfl⟩ := H
    go_enter Try.func19, Try.ntmps19
    go_wp2_with (first | ((with_reducible refine gate_dst (N := 1) rfl ?_); refine box_event ?hg (N := 1) ?hd (cs := #[.int .i64 a0_0, .int .i64 a0_1, .int .i64 a0_2]) (t := 24) ?hr ?_; (case hd => rfl); (case hg => rfl); (case hr => first | (go_simp; done) | (go_simp; rfl)); intro gb308 hg w5 hbox hb; have n0_ := Aside0.mk (below_step (by repeat (first | (with_reducible first | exact HB.out | apply below_alloc | apply pw_below_drewN | apply below_drew1) | exact HB.out)) hb); have n1_ := Aside0.mk (hbox); have n2_ := Aside0.mk ((by rw [hg]; exact (below_size (by repeat (first | (with_reducible first | exact HB.out | apply below_alloc | apply pw_below_drewN | apply below_drew1) | exact HB.out))) : w.heap.size ≤ gb308)); have n3_ := Aside0.mk ((by rw [hg]; exact (below_size (by repeat (first | (with_reducible first | exact HB.out | apply below_alloc | apply pw_below_drewN | apply below_drew1) | exact HB.out))) : w.heap.size ≤ gb308)); clear HB; have HB := n0_; have BK308 := n1_; have GW308 := n2_; have GE308 := n3_; clear n0_ n1_ n2_ n3_; clear hb hbox hg; have hcz6_0 : w5.cell? ⟨gb308, 0, none⟩ = some (.int .i64 a0_0) := (blk_cell BK308.out 0).trans rfl; have hcz6_1 : w5.cell? ⟨gb308, 1, none⟩ = some (.int .i64 a0_1) := (blk_cell BK308.out 1).trans rfl; have hcz6_2 : w5.cell? ⟨gb308, 2, none⟩ = some (.int .i64 a0_2) := (blk_cell BK308.out 2).trans rfl; have hfz6_0 := blk_frozen BK308.out 0; have hfz6_1 := blk_frozen BK308.out 1; have hfz6_2 := blk_frozen BK308.out 2) | ((with_reducible refine gate_callee (f := 23) rfl ?_); refine goesL_ (some 6) rfl rfl Try.func23 (by kernel_rfl) rfl #[.agg #[.int .i64 a0_0, .int .i64 a0_1, .int .i64 a0_2]] rfl (by (try simp only [List.map_toArray, List.map_cons, List.map_nil]); first | done | rfl | (simp only [List.length_drop, List.length_take]; rfl)) ?_; (with_reducible refine (txn_Check.calls a0_0 a0_1 a0_2 t309 _ A2.out).mono ?_); rintro e w7 ⟨rfl, hb⟩; refine ⟨_, rfl, ?_⟩; have n0_ := Aside0.mk (blk_below (g := gb308) (o := .cells #[.int .i64 a0_0, .int .i64 a0_1, .int .i64 a0_2] 24 (0, 0)) (by (with_reducible repeat (first | refine blk_drewN ?_ _ | refine blk_drew ?_ | refine blk_alloc ?_ _)); exact BK308.out) hb); have n1_ := Aside0.mk (below_step (by repeat (first | (with_reducible first | exact HB.out | apply below_alloc | apply pw_below_drewN | apply below_drew1 | refine below_set ?_ GE308.out) | exact HB.out)) hb); clear BK308; clear HB; have BK308 := n0_; have HB := n1_; clear n0_ n1_; (try clear hb); (try clear hb2); (try clear hk); (try clear hi); have hcz8_0 : w7.cell? ⟨gb308, 0, none⟩ = some (.int .i64 a0_0) := (blk_cell BK308.out 0).trans rfl; have hcz8_1 : w7.cell? ⟨gb308, 1, none⟩ = some (.int .i64 a0_1) := (blk_cell BK308.out 1).trans rfl; have hcz8_2 : w7.cell? ⟨gb308, 2, none⟩ = some (.int .i64 a0_2) := (blk_cell BK308.out 2).trans rfl; have hfz8_0 := blk_frozen BK308.out 0; have hfz8_1 := blk_frozen BK308.out 1; have hfz8_2 := blk_frozen BK308.out 2) | ((with_reducible refine gate_dst (N := 16) rfl ?_); refine Kd.R_lit (Kd.int .i64) _ 3 ?hg (N := 16) ?hd (xs := ([a0_0, a0_1, a0_2] : List Int)) (inner := [.int .i64 a0_0, .int .i64 a0_1, .int .i64 a0_2]) (ok := fun _ => True) (okp := fun _ => True) ?hr ?hp (fun _ hk => hk) trivial (Below.refl _ _) (Nat.le_refl _) (by simp) ?_; (case hd => rfl); (case hg => rfl); (case hr => first | (go_simp; done) | (go_simp; rfl)); (case hp => exact (Reps.one (show Kd.M (Kd.int .i64) _ _ _ a0_0 [.int .i64 a0_0] from rfl) (Reps.one (show Kd.M (Kd.int .i64) _ _ _ a0_1 [.int .i64 a0_1] from rfl) (Reps.one (show Kd.M (Kd.int .i64) _ _ _ a0_2 [.int .i64 a0_2] from rfl) (Reps.none _ _))))); intro v311 w9 ho10 hb hg_ hnew_; clear hg_ hnew_; (first | rw [← Ny310.out] at ho10 | (simp only [Int.reduceToNat] at ho10; rw [← Ny310.out] at ho10)); have n0_ := Aside0.mk (Kd.R_lower ho10 (below_size (by repeat (first | (with_reducible first | exact HB.out | apply below_alloc | apply pw_below_drewN | apply below_drew1 | refine below_set ?_ GE308.out) | exact HB.out)))); have n1_ := Aside0.mk (blk_below (g := gb308) (o := .cells #[.int .i64 a0_0, .int .i64 a0_1, .int .i64 a0_2] 24 (0, 0)) (by (with_reducible repeat (first | refine blk_drewN ?_ _ | refine blk_drew ?_ | refine blk_alloc ?_ _)); exact BK308.out) hb); have n2_ := Aside0.mk (below_step (by repeat (first | (with_reducible first | exact HB.out | apply below_alloc | apply pw_below_drewN | apply below_drew1 | refine below_set ?_ GE308.out) | exact HB.out)) hb); clear BK308; clear HB; have HO312 := n0_; have BK308 := n1_; have HB := n2_; clear n0_ n1_ n2_; clear hb ho10; obtain ⟨Ao11, co11, eo11⟩ := Kd.R_slice HO312.out; subst eo11) | ((with_reducible refine gate_callee (f := 32) rfl ?_); refine goesL_ (some 17) rfl rfl Try.func32 (by kernel_rfl) rfl #[.slice Ao11 y310.length co11] rfl (by (try simp only [List.map_toArray, List.map_cons, List.map_nil]); first | done | rfl | (simp only [List.length_drop, List.length_take]; rfl)) ?_; (with_reducible refine (varint_PutAll.calls _ _ y310 t313 _ ?side1 ?side2 A4.out).mono ?_); (case side1 => repeat (first | exact (Kd.R_reads' HO312.out).2.2 | (with_reducible refine Kd.C_alloc ?_ _) | (with_reducible refine Kd.C_drewN ?_ _) | (with_reducible refine Kd.C_drew ?_))); (case side2 => exact (Kd.R_reads' HO312.out).2.1); rintro e w12 ⟨rfl, hb⟩; refine ⟨_, rfl, ?_⟩; have n0_ := Aside0.mk (Kd.R_below (by (with_reducible repeat (first | apply Kd.R_alloc | apply Kd.R_drewN | apply Kd.R_drew)); exact HO312.out) hb); have n1_ := Aside0.mk (blk_below (g := gb308) (o := .cells #[.int .i64 a0_0, .int .i64 a0_1, .int .i64 a0_2] 24 (0, 0)) (by (with_reducible repeat (first | refine blk_drewN ?_ _ | refine blk_drew ?_ | refine blk_alloc ?_ _)); exact BK308.out) hb); have n2_ := Aside0.mk (below_step (by repeat (first | (with_reducible first | exact HB.out | apply below_alloc | apply pw_below_drewN | apply below_drew1 | refine below_set ?_ GE308.out) | exact HB.out)) hb); clear HO312; clear BK308; clear HB; have HO312 := n0_; have BK308 := n1_; have HB := n2_; clear n0_ n1_ n2_; (try clear hb); (try clear hb2); (try clear hk); (try clear hi)))
    go_ret2
    exact ⟨by first | rfl | (simp [errW_none, errW_some] <;> rfl) | (simp [*, errW_none, errW_some] <;> rfl), by repeat (first | (with_reducible first | exact HB.out | apply below_alloc | apply pw_below_drewN | apply below_drew1 | refine below_set ?_ GE308.out) | exact HB.out)⟩
  · rw [if_neg c3] at H
    have c3b0 : (t309 == 0) = false := beq_eq_false_iff_ne.mpr c3
    have c3b1 : (t309 != 0) = true := bne_iff_ne.mpr c3
    simp only [Option.some.injEq, Prod.mk.injEq] at H
    obtain ⟨rfl, rfl⟩ := H
    go_enter Try.func19, Try.ntmps19
    go_wp2_with (first | ((with_reducible refine gate_dst (N := 1) rfl ?_); refine box_event ?hg (N := 1) ?hd (cs := #[.int .i64 a0_0, .int .i64 a0_1, .int .i64 a0_2]) (t := 24) ?hr ?_; (case hd => rfl); (case hg => rfl); (case hr => first | (go_simp; done) | (go_simp; rfl)); intro gb308 hg w13 hbox hb; have n0_ := Aside0.mk (below_step (by repeat (first | (with_reducible first | exact HB.out | apply below_alloc | apply pw_below_drewN | apply below_drew1) | exact HB.out)) hb); have n1_ := Aside0.mk (hbox); have n2_ := Aside0.mk ((by rw [hg]; exact (below_size (by repeat (first | (with_reducible first | exact HB.out | apply below_alloc | apply pw_below_drewN | apply below_drew1) | exact HB.out))) : w.heap.size ≤ gb308)); have n3_ := Aside0.mk ((by rw [hg]; exact (below_size (by repeat (first | (with_reducible first | exact HB.out | apply below_alloc | apply pw_below_drewN | apply below_drew1) | exact HB.out))) : w.heap.size ≤ gb308)); clear HB; have HB := n0_; have BK308 := n1_; have GW308 := n2_; have GE308 := n3_; clear n0_ n1_ n2_ n3_; clear hb hbox hg; have hcz14_0 : w13.cell? ⟨gb308, 0, none⟩ = some (.int .i64 a0_0) := (blk_cell BK308.out 0).trans rfl; have hcz14_1 : w13.cell? ⟨gb308, 1, none⟩ = some (.int .i64 a0_1) := (blk_cell BK308.out 1).trans rfl; have hcz14_2 : w13.cell? ⟨gb308, 2, none⟩ = some (.int .i64 a0_2) := (blk_cell BK308.out 2).trans rfl; have hfz14_0 := blk_frozen BK308.out 0; have hfz14_1 := blk_frozen BK308.out 1; have hfz14_2 := blk_frozen BK308.out 2) | ((with_reducible refine gate_callee (f := 23) rfl ?_); refine goesL_ (some 6) rfl rfl Try.func23 (by kernel_rfl) rfl #[.agg #[.int .i64 a0_0, .int .i64 a0_1, .int .i64 a0_2]] rfl (by (try simp only [List.map_toArray, List.map_cons, List.map_nil]); first | done | rfl | (simp only [List.length_drop, List.length_take]; rfl)) ?_; (with_reducible refine (txn_Check.calls a0_0 a0_1 a0_2 t309 _ A2.out).mono ?_); rintro e w15 ⟨rfl, hb⟩; refine ⟨_, rfl, ?_⟩; have n0_ := Aside0.mk (blk_below (g := gb308) (o := .cells #[.int .i64 a0_0, .int .i64 a0_1, .int .i64 a0_2] 24 (0, 0)) (by (with_reducible repeat (first | refine blk_drewN ?_ _ | refine blk_drew ?_ | refine blk_alloc ?_ _)); exact BK308.out) hb); have n1_ := Aside0.mk (below_step (by repeat (first | (with_reducible first | exact HB.out | apply below_alloc | apply pw_below_drewN | apply below_drew1 | refine below_set ?_ GE308.out) | exact HB.out)) hb); clear BK308; clear HB; have BK308 := n0_; have HB := n1_; clear n0_ n1_; (try clear hb); (try clear hb2); (try clear hk); (try clear hi)))
    go_ret2
    exact ⟨by first | rfl | (simp [errW_none, errW_some] <;> rfl) | (simp [*, errW_none, errW_some] <;> rfl), by repeat (first | (with_reducible first | exact HB.out | apply below_alloc | apply pw_below_drewN | apply below_drew1 | refine below_set ?_ GE308.out) | exact HB.out)⟩

/-! ### headgateref01_Put: function 45 -/
mutual
def headgateref01_Put.j0 : Nat → Int → Option (ByteArray)
  | 0, _ => none
  | k + 1, x3 => headgateref01_Put.l0 k x3 ([] : List Int)
def headgateref01_Put.l0 : Nat → Int → List Int → Option (ByteArray)
  | 0, _, _ => none
  | k + 1, x3, x4 => if x3 > 127 then (if x4.length < 140737488355328 then (headgateref01_Put.l0 k (IntKind.u64.wrap (Int.tdiv x3 128)) (x4 ++ [(IntKind.u64.wrap ((Int.tmod x3 128) + 128)) % 256])) else (none)) else (if x4.length < 140737488355328 then (some (strOfNums (x4 ++ [(x3) % 256]))) else (none))
end
def headgateref01_Put.f (k : Nat) (a0 : Int) : Option (ByteArray) := if a0 < 0 then (headgateref01_Put.j0 k (IntKind.u64.wrap ((IntKind.u64.wrap ((IntKind.u64.wrap (wrap64 (-(wrap64 (a0 + 1))))) * 2)) + 1))) else (headgateref01_Put.j0 k (IntKind.u64.wrap ((IntKind.u64.wrap (a0)) * 2)))
theorem headgateref01_Put.mono_l : ∀ k, (∀ y0, LeO (headgateref01_Put.j0 k y0) (headgateref01_Put.j0 (k + 1) y0)) ∧ (∀ y0 y1, LeO (headgateref01_Put.l0 k y0 y1) (headgateref01_Put.l0 (k + 1) y0 y1))
  | 0 => ⟨fun _ r h => by simp [headgateref01_Put.j0] at h, fun _ _ r h => by simp [headgateref01_Put.l0] at h⟩
  | k + 1 => by
    obtain ⟨ih0, ih1⟩ := headgateref01_Put.mono_l k
    refine ⟨?_, ?_⟩
    · intro y0
      unfold headgateref01_Put.j0
      repeat' first
      | (with_reducible exact ih0 _)
      | (with_reducible exact ih1 _ _)
      | (with_reducible exact LeO.refl _)
      | (with_reducible exact LeO.none _)
      | (with_reducible refine LeO.ite ?_ ?_)
      | (with_reducible refine LeO.bind ?_ (fun _ => ?_))
      | exact ih0 _
      | exact ih1 _ _
      | exact LeO.none _
      | refine LeO.ite ?_ ?_
      | refine LeO.bind ?_ (fun _ => ?_)
    · intro y0 y1
      unfold headgateref01_Put.l0
      repeat' first
      | (with_reducible exact ih0 _)
      | (with_reducible exact ih1 _ _)
      | (with_reducible exact LeO.refl _)
      | (with_reducible exact LeO.none _)
      | (with_reducible refine LeO.ite ?_ ?_)
      | (with_reducible refine LeO.bind ?_ (fun _ => ?_))
      | exact ih0 _
      | exact ih1 _ _
      | exact LeO.none _
      | refine LeO.ite ?_ ?_
      | refine LeO.bind ?_ (fun _ => ?_)
theorem headgateref01_Put.mono : ∀ a0 k, LeO (headgateref01_Put.f k a0) (headgateref01_Put.f (k + 1) a0) := by
  intro a0 k
  obtain ⟨ih0, ih1⟩ := headgateref01_Put.mono_l k
  unfold headgateref01_Put.f
  repeat' first
      | (with_reducible exact ih0 _)
      | (with_reducible exact ih1 _ _)
      | (with_reducible exact LeO.refl _)
      | (with_reducible exact LeO.none _)
      | (with_reducible refine LeO.ite ?_ ?_)
      | (with_reducible refine LeO.bind ?_ (fun _ => ?_))
      | exact ih0 _
      | exact ih1 _ _
      | exact LeO.none _
      | refine LeO.ite ?_ ?_
      | refine LeO.bind ?_ (fun _ => ?_)
set_option maxHeartbeats 8000000 in
set_option maxRecDepth 100000 in
theorem headgateref01_Put.calls (k : Nat) (a0 : Int) (r : ByteArray) (w : World) (h : headgateref01_Put.f k a0 = some r) :
    Calls Try.prog 45 #[.int .i64 a0] w fun e w' => e = .returned (.string r) ∧ Below w.heap.size w w' := by
  have HB := Aside0.mk (Below.refl w.heap.size w)
  have H : (if a0 < 0 then (headgateref01_Put.j0 k (IntKind.u64.wrap ((IntKind.u64.wrap ((IntKind.u64.wrap (wrap64 (-(wrap64 (a0 + 1))))) * 2)) + 1))) else (headgateref01_Put.j0 k (IntKind.u64.wrap ((IntKind.u64.wrap (a0)) * 2)))) = some r := h
  clear h
  have HC2 := Aside0.mk H
  clear H
  go_enter Try.func45, Try.ntmps45
  go_upto_if 9 with (fail)
  go_cut [3] (fun v3 wc => ∃ (kq : Nat) (x3_1 : Int), v3 = .int .u64 x3_1 ∧ Aside0 (headgateref01_Put.j0 kq x3_1 = some r) ∧ Aside0 (kq ≤ k) ∧ Aside0 (Below w.heap.size w wc))
  case first =>
    have H := HC2.out
    clear HC2
    by_cases c3 : a0 < 0
    · rw [if_pos c3] at H
      have c3b0 : decide (a0 < 0) = true := decide_eq_true c3
      clear c3
      (first | rw [c3b0] | rw [c3b9] | (simp only [i64_w, i32_w]; rw [c3b0]) | skip)
      have H' := Aside0.mk H
      clear H
      go_wp2
      go_meet
      case rel => exact ⟨_, (IntKind.u64.wrap ((IntKind.u64.wrap ((IntKind.u64.wrap (wrap64 (-(wrap64 (a0 + 1))))) * 2)) + 1)), (by first | rfl | (simp; done) | (simp [*]; done)), H', ⟨by first | omega | exact Nat.le_refl _⟩, ⟨by repeat (first | (with_reducible first | exact HB.out | apply below_alloc | apply pw_below_drewN | apply below_drew1) | exact HB.out)⟩⟩
    · rw [if_neg c3] at H
      have c3b0 : decide (a0 < 0) = false := decide_eq_false c3
      clear c3
      (first | rw [c3b0] | rw [c3b9] | (simp only [i64_w, i32_w]; rw [c3b0]) | skip)
      have H' := Aside0.mk H
      clear H
      go_wp2
      go_meet
      case rel => exact ⟨_, (IntKind.u64.wrap ((IntKind.u64.wrap (a0)) * 2)), (by first | rfl | (simp; done) | (simp [*]; done)), H', ⟨by first | omega | exact Nat.le_refl _⟩, ⟨by repeat (first | (with_reducible first | exact HB.out | apply below_alloc | apply pw_below_drewN | apply below_drew1) | exact HB.out)⟩⟩
  case rest =>
    clear HC2
    try clear p2
    try clear c3
    try clear c3b0
    obtain ⟨kq, x3_1, rfl, HA, HJ1, HB⟩ := hcut
    cases kq with
    | zero => exact absurd HA.out (by simp [headgateref01_Put.j0])
    | succ kj1 =>
      have H := HA.out
      clear HA
      simp only [headgateref01_Put.j0] at H
      have H' := Aside0.mk H
      clear H
      go_wp2
      go_loopg [3, 4] kj1 (fun kq v3 v4 w' => ∃ (x3_2 : Int) (x4_2 : List Int), v3 = .int .u64 x3_2 ∧ Aside0 (headgateref01_Put.l0 kq x3_2 x4_2 = some r) ∧ Aside0 (kq ≤ kj1) ∧ Aside0 (Kd.R (Kd.int .u8) 5 w' w.heap.size (fun _ => True) v4 x4_2) ∧ Aside0 (Below w.heap.size w w'))
      case atStart => exact ⟨(x3_1), (([] : List Int)), (by first | rfl | (simp; done) | (simp [*]; done)), H', ⟨Nat.le_refl _⟩, ⟨by first | exact Kd.R_nil _ _ _ _ _ | exact Kd.N_nil _ _ _ _ _ | exact Kd.V_nil _ _ _ _ _ | exact Kd.Q_nil _ _ _ _ _ | exact Kd.S_nil _ _ _ _ _⟩, ⟨by repeat (first | (with_reducible first | exact HB.out | apply below_alloc | apply pw_below_drewN | apply below_drew1) | exact HB.out)⟩⟩
      case round =>
        clear H'
        try clear p2
        try clear c3
        try clear c3b0
        try clear p2
        obtain ⟨x3_2, x4_2, rfl, HA, HK2, HO_4, HB⟩ := hrel
        cases gk with
        | zero => exact absurd HA.out (by simp [headgateref01_Put.l0])
        | succ k2 =>
          have H := HA.out
          clear HA
          simp only [headgateref01_Put.l0] at H
          by_cases c4 : x3_2 > 127
          · rw [if_pos c4] at H
            have c4b0 : decide (127 < x3_2) = true := decide_eq_true c4
            clear c4
            by_cases c5 : x4_2.length < 140737488355328
            · rw [if_pos c5] at H
              have LMc5 := Aside0.mk c5
              clear c5
              obtain ⟨y314, hy314⟩ : ∃ y_ : List Int, y_ = (x4_2 ++ [(IntKind.u64.wrap ((Int.tmod x3_2 128) + 128)) % 256]) := ⟨_, rfl⟩
              replace H : (headgateref01_Put.l0 k2 (IntKind.u64.wrap (Int.tdiv x3_2 128)) y314) = some r := by first | (rw [hy314]; with_reducible exact H) | (have H2_ := (Option.bind_some _ _).symm.trans H; rw [hy314]; with_reducible exact H2_) | (have H2_ := (Option.bind_some _ _).symm.trans H; with_reducible exact H2_) | with_reducible exact H | (rw [hy314]; exact H) | exact H
              have Ny314 := Aside0.mk hy314
              clear hy314
              have H' := Aside0.mk H
              clear H
              go_wp2_with (first | ((with_reducible refine gate_builtin (b := .append) (xs := #[.tmp 18, .tmp 23]) rfl ?_); at_builtin; refine Kd.R_append (Kd.int .u8) (w0 := w) w.heap.size rfl (.tmp 18) (.tmp 23) 78 5 (.int .u8 0) 1 rfl Try.underlying78 info5 rfl (by decide) (by omega) u4 x4_2 ((IntKind.u64.wrap ((Int.tmod x3_2 128) + 128)) % 256) [.int .u8 ((IntKind.u64.wrap ((Int.tmod x3_2 128) + 128)) % 256)] (fun _ => True) (fun _ => False) rfl rfl ?aP (fun _ hk => hk.elim) ?aF ?aO ?aB ?aS ?aL ?_; (case aP => exact rfl); (case aB => exact (by repeat (first | (with_reducible first | exact HB.out | apply below_alloc | apply pw_below_drewN | apply below_drew1) | exact HB.out))); (case aF => exact (fun _ _ => trivial)); (case aO => exact (by (with_reducible repeat (first | apply Kd.R_alloc | apply Kd.R_drewN | apply Kd.R_drew)); exact HO_4.out)); (case aS => exact (below_size (by repeat (first | (with_reducible first | exact HB.out | apply below_alloc | apply pw_below_drewN | apply below_drew1) | exact HB.out)))); (case aL => have := LMc5.out; omega); intro v315 w6 ho hb hg hat; rw [← Ny314.out] at ho; have n0_ := Aside0.mk (hb); have n1_ := Aside0.mk (ho); clear HB; clear HO_4; have HB := n0_; have HO316 := n1_; clear n0_ n1_; clear ho hb hg hat))
              go_roundg k2
              case measure => have := HJ1.out; have := HK2.out; omega
              case rel => exact ⟨(IntKind.u64.wrap (Int.tdiv x3_2 128)), (y314), (by first | rfl | (simp; done) | (simp [*]; done)), H', ⟨by have := HJ1.out; have := HK2.out; omega⟩, ⟨by (with_reducible repeat (first | apply Kd.R_alloc | apply Kd.R_drewN | apply Kd.R_drew)); exact HO316.out⟩, ⟨by repeat (first | (with_reducible first | exact HB.out | apply below_alloc | apply pw_below_drewN | apply below_drew1) | exact HB.out)⟩⟩
            · rw [if_neg c5] at H
              exact absurd H (by simp)
          · rw [if_neg c4] at H
            have c4b0 : decide (127 < x3_2) = false := decide_eq_false c4
            clear c4
            by_cases c7 : x4_2.length < 140737488355328
            · rw [if_pos c7] at H
              have LMc7 := Aside0.mk c7
              clear c7
              obtain ⟨y317, hy317⟩ : ∃ y_ : List Int, y_ = (x4_2 ++ [(x3_2) % 256]) := ⟨_, rfl⟩
              replace H : (some (strOfNums y317)) = some r := by first | (rw [hy317]; with_reducible exact H) | (have H2_ := (Option.bind_some _ _).symm.trans H; rw [hy317]; with_reducible exact H2_) | (have H2_ := (Option.bind_some _ _).symm.trans H; with_reducible exact H2_) | with_reducible exact H | (rw [hy317]; exact H) | exact H
              have Ny317 := Aside0.mk hy317
              clear hy317
              obtain rfl := Option.some.inj H
              go_wp2_with (first | ((with_reducible refine gate_builtin (b := .append) (xs := #[.tmp 27, .tmp 30]) rfl ?_); at_builtin; refine Kd.R_append (Kd.int .u8) (w0 := w) w.heap.size rfl (.tmp 27) (.tmp 30) 78 5 (.int .u8 0) 1 rfl Try.underlying78 info5 rfl (by decide) (by omega) u4 x4_2 ((x3_2) % 256) [.int .u8 ((x3_2) % 256)] (fun _ => True) (fun _ => False) rfl rfl ?aP (fun _ hk => hk.elim) ?aF ?aO ?aB ?aS ?aL ?_; (case aP => exact rfl); (case aB => exact (by repeat (first | (with_reducible first | exact HB.out | apply below_alloc | apply pw_below_drewN | apply below_drew1) | exact HB.out))); (case aF => exact (fun _ _ => trivial)); (case aO => exact (by (with_reducible repeat (first | apply Kd.R_alloc | apply Kd.R_drewN | apply Kd.R_drew)); exact HO_4.out)); (case aS => exact (below_size (by repeat (first | (with_reducible first | exact HB.out | apply below_alloc | apply pw_below_drewN | apply below_drew1) | exact HB.out)))); (case aL => have := LMc7.out; omega); intro v318 w8 ho hb hg hat; rw [← Ny317.out] at ho; have n0_ := Aside0.mk (hb); have n1_ := Aside0.mk (ho); clear HB; clear HO_4; have HB := n0_; have HO319 := n1_; clear n0_ n1_; clear ho hb hg hat; have hcv9 := own_string (P := Try.prog) Try.underlying78 Try.underlying5 Try.underlying9 (Kd.own_of_R HO319.out)))
              go_ret
              exact ⟨by first | rfl | (simp [errW_none, errW_some] <;> rfl) | (simp [*, errW_none, errW_some] <;> rfl), by repeat (first | (with_reducible first | exact HB.out | apply below_alloc | apply pw_below_drewN | apply below_drew1) | exact HB.out)⟩
            · rw [if_neg c7] at H
              exact absurd H (by simp)

end Go.Proofs.Ytleongigmjhegaa.P
