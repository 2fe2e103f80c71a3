-- Written by wip/mk.py of this repo: the kit's print program, with contracts of our own among its functions.
import Derived.Test.YtgfmbddkefjchaaPx0
namespace Go.Proofs.Ytgfmbddkefjchaa.P
open Go.RowKit Go.Proofs.YtgfmbddkefjchaaW.PrintWords Go.Proofs.YtgfmbddkefjchaaW.PrintLast Go.Proofs.YtgfmbddkefjchaaW.PrintMore
attribute [local go_sem] max2_int min2_int max_two min_two max_three min_three max_four min_four   -- for this text's walks alone
set_option linter.unusedVariables false
set_option linter.unusedSimpArgs false

/-! ### varint_Put: function 37 -/
def varint_Put.f (a0 : Int) : Option ByteArray := if Vm.I64 a0 then some (Vm.bs (Vm.enc a0)) else none
theorem varint_Put.bits_xor0 (a : Nat) (ha : a < 18446744073709551616) : Go.bits .xor .u64 (a : Int) 0 = (a : Int) := by
  have e : BitVec.ofInt 64 (a : Int) ^^^ BitVec.ofInt 64 0 = BitVec.ofNat 64 a := by simp
  unfold Go.bits
  show IntKind.u64.wrap ((BitVec.ofInt 64 (a : Int) ^^^ BitVec.ofInt 64 0).toNat : Int) = _
  rw [e, BitVec.toNat_ofNat, IntKind.wrap_u64]
  omega
theorem varint_Put.bits_xor1 (a : Nat) (ha : a < 18446744073709551616) : Go.bits .xor .u64 (a : Int) 18446744073709551615 = ((18446744073709551615 - a : Nat) : Int) := by
  have e : BitVec.ofInt 64 (a : Int) ^^^ BitVec.ofInt 64 18446744073709551615 = ~~~ BitVec.ofNat 64 a := by
    rw [show BitVec.ofInt 64 18446744073709551615 = BitVec.allOnes 64 by decide, BitVec.xor_allOnes, BitVec.ofInt_natCast]
  unfold Go.bits
  show IntKind.u64.wrap ((BitVec.ofInt 64 (a : Int) ^^^ BitVec.ofInt 64 18446744073709551615).toNat : Int) = _
  rw [e, BitVec.toNat_not, BitVec.toNat_ofNat, IntKind.wrap_u64]
  omega
theorem varint_Put.zz_eq (n : Int) (h : Vm.I64 n) : Go.bits .xor .u64 (IntKind.u64.wrap (IntKind.u64.wrap n * 2)) (IntKind.u64.wrap (n / 9223372036854775808)) = (Vm.zz n : Int) := by
  unfold Vm.I64 at h
  rw [IntKind.wrap_u64, IntKind.wrap_u64, IntKind.wrap_u64]
  by_cases h0 : n < 0
  · have e1 : (n / 9223372036854775808) % 18446744073709551616 = 18446744073709551615 := by omega
    obtain ⟨a, ha⟩ := Int.eq_ofNat_of_zero_le (show 0 ≤ n % 18446744073709551616 * 2 % 18446744073709551616 by omega)
    rw [e1, ha, varint_Put.bits_xor1 a (by omega)]
    unfold Vm.zz
    rw [if_pos h0]
    omega
  · have e1 : (n / 9223372036854775808) % 18446744073709551616 = 0 := by omega
    obtain ⟨a, ha⟩ := Int.eq_ofNat_of_zero_le (show 0 ≤ n % 18446744073709551616 * 2 % 18446744073709551616 by omega)
    rw [e1, ha, varint_Put.bits_xor0 a (by omega)]
    unfold Vm.zz
    rw [if_neg h0]
    omega
theorem varint_Put.or128 (v : Nat) : Go.bits .or .u8 ((v : Int) % 256) 128 = ((v % 128 + 128 : Nat) : Int) := by
  have key : ∀ a : Fin 256, Go.bits .or .u8 ((a.val : Nat) : Int) 128 = ((a.val % 128 + 128 : Nat) : Int) := by decide +kernel
  have := key ⟨v % 256, by omega⟩
  simp only at this
  rw [show (v : Int) % 256 = ((v % 256 : Nat) : Int) by omega, this]
  omega
set_option maxRecDepth 100000 in
theorem varint_Put.cut (b j : Nat) (hj : j < 10) (W : World) : (Instr.sliceAt 79 (.pointer (some ⟨b, 0, none⟩)) none (some (.int .i64 ((j : Int) + 1))) none).run Try.prog W = .ok (.slice (some ⟨b, 0, none⟩) (j + 1) 10) W := by
  have hl : Try.prog.arrayLen 79 = 10 := by kernel_rfl
  have hs : ∀ W : World, (sizeOf (Try.prog.elem 79)).run Try.prog W = .ok 1 W := fun W => by rfl
  rw [run_sliceAt_array_h W 79 _ Try.underlying79 .i64 _ (by omega) (by rw [hl]; omega), hs, hl]
  have e : ((j : Int) + 1).toNat = j + 1 := by omega
  simp [Result.andThen, slicedAt, e, Addr.add]
theorem varint_Put.told (W : World) (base b j : Nat) (hj : j < 10) (pre : List UInt8) (xs : List Int) (v : Nat) (hv : v < 256) (hp : pre.length = j) (hl : xs.length = 10) (ht : xs.take j = pre.map fun c => (c.toNat : Int))
    (ho : W.ownsRow base 79 1 (.slice (some ⟨b, 0, none⟩) 10 10) 10 (nums .u8 xs)) :
    (convert 63 9 (.slice (some ⟨b, 0, none⟩) (j + 1) 10)).run Try.prog (W.setCell ⟨b, j, none⟩ (.int .u8 (v : Int))) = .ok (.string (Vm.bs (pre ++ [UInt8.ofNat v]))) (W.setCell ⟨b, j, none⟩ (.int .u8 (v : Int))) := by
  have hst := (own_store ho (j : Int) (v : Int)).1
  rw [Int.toNat_natCast] at hst
  have hx : ((xs.set j (v : Int)).take (j + 1)) = (pre ++ [UInt8.ofNat v]).map fun c => (c.toNat : Int) := by
    rw [List.take_succ_eq_append_getElem (by simp; omega), List.take_set_of_le (by omega), ht]
    simp [Vm.toNat_ofNat_lt hv]
  rw [run_convert_bytes_arg _ 63 5 Try.underlying63 Try.underlying5 b 0 (j + 1) 10 ((xs.set j (v : Int)).take (j + 1)) (by simp; omega) (fun i hi => ?_) 9 Try.underlying9]
  · rw [hx, Vm.strOfNums_bs, List.map_map]
    congr 3
    have : ((fun n : Int => UInt8.ofNat n.toNat) ∘ fun c : UInt8 => (c.toNat : Int)) = id := by
      funext c
      simp
    rw [this, List.map_id]
  · have hc := (own_at hst (i : Int) (by omega) (by omega)).1
    rw [Int.toNat_natCast] at hc
    rw [Nat.zero_add, hc]
    simp [rd, List.getD_eq_getElem?_getD, List.getElem?_take, hi]
set_option maxHeartbeats 8000000 in
set_option maxRecDepth 100000 in
theorem varint_Put.calls (a0 : Int) (r : ByteArray) (w : World) (h : varint_Put.f a0 = some r) :
    Calls Try.prog 37 #[.int .i64 a0] w fun e w' => e = .returned (.string r) ∧ Below w.heap.size w w' := by
  unfold varint_Put.f at h
  split at h
  case isFalse => cases h
  rename_i hn
  have hr : r = Vm.bs (Vm.enc a0) := by injection h with h; exact h.symm
  clear h
  have hz := Lib.hid (varint_Put.zz_eq a0 hn)
  have hzl := Lib.hid (Vm.zz_lt.2 hn)
  have HR := Lib.hid hr
  clear hr hn
  go_enter Try.func37, Try.ntmps37
  go_wp2
  go_loopw [3, 5] (fun u k wr => ∃ (j f v : Nat) (pre : List UInt8) (xs : List Int), j + f = 9 ∧ u = .int .u64 v ∧ k = .int .i64 j ∧ v < 2 * 128 ^ f ∧ Aside0 (Vm.enc a0 = pre ++ Vm.sev f v) ∧ Aside0 (pre.length = j) ∧ Aside0 (xs.length = 10) ∧ Aside0 (xs.take j = pre.map fun b => (b.toNat : Int)) ∧ Aside0 (wr.ownsRow w.heap.size 79 1 (.slice (some ⟨w.heap.size, 0, none⟩) 10 10) 10 (nums .u8 xs)) ∧ Aside0 (Below w.heap.size w wr)) (fun _ k _ => (10 - intOf k).toNat)
  case atStart =>
    exact ⟨0, 9, Vm.zz a0, [], List.replicate 10 0, rfl, by rw [hz.out], rfl, hzl.out, ⟨rfl⟩, ⟨rfl⟩, ⟨rfl⟩, ⟨rfl⟩, ⟨World.ownsRow_lit (base := w.heap.size) (e := 79) (size := 1) w (nums .u8 (List.replicate 10 0)).toArray 10 (Nat.le_refl _) (by decide) (by simp [nums])⟩, ⟨below_alloc (Below.refl _ _) _⟩⟩
  case round =>
    obtain ⟨j, f, v, pre, xs, hj, rfl, rfl, hv, HE, HP, HL, HT, HO, HB⟩ := hrel
    have hj10 : j < 10 := by omega
    have hc := own_at HO.out (j : Int) (by omega) (by omega)
    rw [Int.toNat_natCast] at hc
    obtain ⟨hc1, hc2⟩ := hc
    by_cases hlt : 128 ≤ v
    · have hor := varint_Put.or128 v
      have hf : 0 < f := by
        rcases Nat.eq_zero_or_pos f with h0 | h0
        · subst h0; omega
        · exact h0
      go_wp2
      go_roundw
      case rel =>
        obtain ⟨f, rfl⟩ : ∃ m, f = m + 1 := ⟨f - 1, by omega⟩
        have hs : 2 * 128 ^ (f + 1) = 128 * (2 * 128 ^ f) := by rw [Nat.pow_succ]; omega
        have hst := own_store HO.out (j : Int) ((v : Int) % 128 + 128)
        rw [Int.toNat_natCast] at hst
        have he : (v : Int) % 128 + 128 = ((UInt8.ofNat (v % 128 + 128)).toNat : Int) := by rw [Vm.toNat_ofNat_lt (by omega)]; omega
        refine ⟨j + 1, f, v / 128, pre ++ [UInt8.ofNat (v % 128 + 128)], xs.set j ((v : Int) % 128 + 128), by omega, congrArg (Value.int .u64) (by omega), congrArg (Value.int .i64) (by omega), by omega, ⟨?_⟩, ⟨by simp [HP.out]⟩, ⟨by simp [HL.out]⟩, ⟨?_⟩, ⟨hst.1⟩, ⟨?_⟩⟩
        · rw [HE.out, Vm.sev_succ, if_neg (by omega)]; simp
        · rw [List.take_succ_eq_append_getElem (by simp [HL.out]; omega), List.take_set_of_le (by omega), HT.out]
          rw [List.getElem_set_self, List.map_append, he]
          rfl
        · exact pw_below_grown HB.out _ HB.out.size hst.2 (fun k hk => by injection hk with hk; omega)
      case measure => simp [intOf]; omega
    · have kb := varint_Put.told wr w.heap.size w.heap.size j hj10 pre xs v (by omega) HP.out HL.out HT.out HO.out
      have ks := varint_Put.cut w.heap.size j hj10
      have hr : Vm.bs (pre ++ [UInt8.ofNat v]) = r := by
        rw [HR.out, HE.out]
        congr 2
        cases f with
        | zero => rfl
        | succ f => rw [Vm.sev_succ, if_pos (by omega)]
      rw [hr] at kb
      have hb : Below w.heap.size w (wr.setCell ⟨w.heap.size, j, none⟩ (.int .u8 v)) := by
        have hst := own_store HO.out (j : Int) (v : Int)
        rw [Int.toNat_natCast] at hst
        exact pw_below_grown HB.out _ HB.out.size hst.2 (fun k hk => by injection hk with hk; omega)
      have HBN := Aside0.mk hb
      clear hb hr
      go_wp2
      go_ret
      exact ⟨rfl, HBN.out⟩

/-! ### varint_PutText: function 25 -/
def varint_PutText.f (a0 : ByteArray) : Option (ByteArray) := (varint_Put.f (a0.size : Int)).bind fun t108 => (if t108.size + a0.size ≤ 9223372036854775807 then (some (t108 ++ a0)) else (none))
set_option maxHeartbeats 8000000 in
set_option maxRecDepth 100000 in
theorem varint_PutText.calls (a0 : ByteArray) (r : ByteArray) (w : World) (h : varint_PutText.f a0 = some r) :
    Calls Try.prog 25 #[.string a0] w fun e w' => e = .returned (.string r) ∧ Below w.heap.size w w' := by
  have HB := Aside0.mk (Below.refl w.heap.size w)
  have H : ((varint_Put.f (a0.size : Int)).bind fun t108 => (if t108.size + a0.size ≤ 9223372036854775807 then (some (t108 ++ a0)) else (none))) = some r := h
  clear h
  replace H := Option.bind_eq_some_iff.mp H
  obtain ⟨t108, A20, H⟩ := H
  replace H : (if t108.size + a0.size ≤ 9223372036854775807 then (some (t108 ++ a0)) else (none)) = some r := H
  have A2 := Aside0.mk A20
  clear A20
  by_cases c3 : t108.size + a0.size ≤ 9223372036854775807
  · rw [if_pos c3] at H
    have c3b0 := eq_true c3
    have c3b1 : decide (t108.size + a0.size ≤ 9223372036854775807) = true := decide_eq_true c3
    try have c3b2 : (9223372036854775807 < t108.size + a0.size) = False := eq_false (Nat.not_lt.2 c3)
    obtain rfl := Option.some.inj H
    go_enter Try.func25, Try.ntmps25
    go_wp2_with (first | ((with_reducible refine gate_callee (f := 37) rfl ?_); refine goesL_ (some 5) rfl rfl Try.func37 (by kernel_rfl) rfl #[.int .i64 (a0.size : Int)] rfl (by (try simp only [List.map_toArray, List.map_cons, List.map_nil]); first | done | rfl | (simp only [List.length_drop, List.length_take]; rfl)) ?_; (with_reducible refine (varint_Put.calls (a0.size : Int) t108 _ A2.out).mono ?_); rintro e w4 ⟨rfl, hb⟩; refine ⟨_, rfl, ?_⟩; have n0_ := Aside0.mk (below_step (by repeat (first | (with_reducible first | exact HB.out | apply below_alloc | apply pw_below_drewN | apply below_drew1) | exact HB.out)) hb); clear HB; have HB := n0_; clear n0_; (try clear hb); (try clear hb2); (try clear hk); (try clear hi)))
    go_ret
    exact ⟨by first | rfl | (simp [errW_none, errW_some] <;> rfl) | (simp [*, errW_none, errW_some] <;> rfl), by repeat (first | (with_reducible first | exact HB.out | apply below_alloc | apply pw_below_drewN | apply below_drew1) | exact HB.out)⟩
  · rw [if_neg c3] at H
    exact absurd H (by simp)

-- NOT PRINTED: function 47 (abi_NoEscape)

-- NOT PRINTED: function 44 (strings_Builder_copyCheck)

-- NOT PRINTED: function 38 (strings_Builder_WriteString)

-- NOT PRINTED: function 39 (strings_Builder_String)

/-! ### varint_PutAll: function 26 -/
def varint_PutAll.f (l0 : List Int) : Option ByteArray := if l0.length ≤ 1099511627776 ∧ ∀ n ∈ l0, Vm.I64 n then some (Vm.bs (l0.flatMap Vm.enc)) else none
theorem varint_PutAll.len (l : List Int) : (l.flatMap Vm.enc).length ≤ 10 * l.length := by
  induction l with
  | nil => simp
  | cons a l ih => have := (Vm.enc_len a).2; simp only [List.flatMap_cons, List.length_append, List.length_cons]; omega
theorem varint_PutAll.snoc (l : List Int) (j : Nat) (h : j < l.length) : (l.take (j + 1)).flatMap Vm.enc = (l.take j).flatMap Vm.enc ++ Vm.enc (rd l (j : Int)) := by
  rw [List.take_succ_eq_append_getElem h, List.flatMap_append]
  simp [rd, List.getD_eq_getElem?_getD, List.getElem?_eq_getElem h]
set_option maxHeartbeats 8000000 in
set_option maxRecDepth 100000 in
theorem varint_PutAll.calls (A0 : Option Addr) (c0 : Nat) (l0 : List Int) (r : ByteArray) (w : World) (hr0 : Kd.C (Kd.int .i64) w A0 l0.length l0) (hc0 : l0.length ≤ c0) (h : varint_PutAll.f l0 = some r) :
    Calls Try.prog 26 #[.slice A0 l0.length c0] w fun e w' => e = .returned (.string r) ∧ Below w.heap.size w w' := by
  unfold varint_PutAll.f at h
  split at h
  case isFalse => cases h
  rename_i hn
  obtain ⟨hlen, hall⟩ := hn
  have HR := Lib.hid (Option.some.inj h)
  have HALL := Lib.hid hall
  have HC := Aside0.mk hr0
  clear h hall hr0
  go_enter Try.func26, Try.ntmps26
  go_wp2
  go_loopw [8] (fun v8 wr => ∃ j : Nat, j ≤ l0.length ∧ v8 = .int .i64 j ∧ Aside0 (Lib.IsBuilder 69 5 w.heap.size w.heap.size (Lib.byteCells ((l0.take j).flatMap Vm.enc)) wr) ∧ Aside0 (Below w.heap.size w wr)) (fun v8 _ => l0.length - (intOf v8).toNat)
  case atStart =>
    exact ⟨0, Nat.zero_le _, rfl, ⟨Lib.fresh_isBuilder _ _ w⟩, ⟨below_alloc (Below.refl _ _) _⟩⟩
  case round =>
    obtain ⟨j, hj, rfl, HI, HB⟩ := hrel
    have hBw := HB.out.size
    have hl := varint_PutAll.len (l0.take j)
    have hlt := List.length_take_le j l0
    by_cases hlt : j < l0.length
    · obtain ⟨ad, rfl, hcell⟩ := Kd.at_int HC.out (j : Int) (by omega) (by omega)
      replace hcell := (HB.out.cell (World.block_lt_of_cell? w _ hcell)).trans hcell
      rw [Int.toNat_natCast] at hcell
      have hmem : Vm.I64 (rd l0 (j : Int)) := HALL.out _ (by simp [rd, List.getD_eq_getElem?_getD, List.getElem?_eq_getElem hlt])
      have hput : varint_Put.f (rd l0 (j : Int)) = some (Vm.bs (Vm.enc (rd l0 (j : Int)))) := if_pos hmem
      have HP := Lib.hid hput
      have henc := (Vm.enc_len (rd l0 (j : Int))).2
      have hl2 : (Lib.byteCells ((l0.take j).flatMap Vm.enc)).length + (Vm.bs (Vm.enc (rd l0 (j : Int)))).size ≤ 140737488355328 := by simp only [Lib.byteCells, List.length_map, Vm.size_bs]; omega
      have HL2 := Lib.hid hl2
      clear hput hl2
      go_wp2_with (go_at_call 37; refine (varint_Put.calls (rd l0 (j : Int)) _ _ HP.out).mono ?_)
      rintro e w1 ⟨rfl, hb1⟩
      have HI1 := Aside0.mk (Bld.IsBuilder.below HI.out hb1)
      have HB1 := Aside0.mk (below_then HB.out hBw hb1)
      have hsz1 := HB1.out.size
      clear hb1
      go_wp2_with (go_at_call 38; refine (Bld.writeString w.heap.size w.heap.size _ _ _ HI1.out HL2.out hsz1).mono ?_)
      rintro e w2 ⟨rfl, hi2, hb2⟩
      have HB2 := Aside0.mk (HB1.out.trans hb2)
      have HI2 := Aside0.mk hi2
      clear hi2 hb2
      go_wp2
      go_roundw
      case rel =>
        refine ⟨j + 1, by omega, by go_num, ⟨?_⟩, HB2⟩
        rw [varint_PutAll.snoc _ _ hlt, Bld.byteCells_append]
        have := HI2.out
        rw [Bld.strCells_eq, Vm.data_bs] at this
        exact .inr this
      case measure => simp [intOf]; omega
    · obtain rfl : j = l0.length := by omega
      go_wp2_with (go_at_call 39; refine (Bld.string w.heap.size w.heap.size _ _ HI.out hBw).mono ?_)
      rintro e w2 ⟨rfl, hb2⟩
      have HB2 := Aside0.mk (HB.out.trans hb2)
      clear hb2
      go_wp2
      go_ret
      refine ⟨?_, HB2.out⟩
      rw [← HR.out]
      rfl

end Go.Proofs.Ytgfmbddkefjchaa.P
