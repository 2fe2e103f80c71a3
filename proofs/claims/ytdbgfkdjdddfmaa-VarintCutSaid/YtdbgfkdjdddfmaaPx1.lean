-- Written by wip/mk.py of this repo: the kit's print program, with contracts of our own among its functions.
import Derived.Test.YtdbgfkdjdddfmaaPx0
namespace Go.Proofs.Ytdbgfkdjdddfmaa.P
open Go.RowKit Go.Proofs.YtdbgfkdjdddfmaaW.PrintWords Go.Proofs.YtdbgfkdjdddfmaaW.PrintLast Go.Proofs.YtdbgfkdjdddfmaaW.PrintMore
attribute [local go_sem] max2_int min2_int max_two min_two max_three min_three max_four min_four   -- for this text's walks alone
set_option linter.unusedVariables false
set_option linter.unusedSimpArgs false

/-! ### varint_Put: function 12 -/
def varint_Put.f (a0 : Int) : Option ByteArray := if Vm.I64 a0 then some (Vm.bs (Vm.enc a0)) else none
theorem varint_Put.bits_xor0 (a : Nat) (ha : a < 18446744073709551616) : Go.bits .xor .u64 (a : Int) 0 = (a : Int) := by
  have e : BitVec.ofInt 64 (a : Int) ^^^ BitVec.ofInt 64 0 = BitVec.ofNat 64 a := by simp
  unfold Go.bits
  show IntKind.u64.wrap ((BitVec.ofInt 64 (a : Int) ^^^ BitVec.ofInt 64 0).toNat : Int) = _
  rw [e, BitVec.toNat_ofNat, IntKind.wrap_u64]
  omega
theorem varint_Put.bits_xor1 (a : Nat) (ha : a < 18446744073709551616) : Go.bits .xor .u64 (a : Int) 18446744073709551615 = ((18446744073709551615 - a : Nat) : Int) := by
  have e : BitVec.ofInt 64 (a : Int) ^^^ BitVec.ofInt 64 18446744073709551615 = ~~~ BitVec.ofNat 64 a := by
    rw [show BitVec.ofInt 64 18446744073709551615 = BitVec.allOnes 64 by decide, BitVec.xor_allOnes, BitVec.ofInt_natCast]
  unfold Go.bits
  show IntKind.u64.wrap ((BitVec.ofInt 64 (a : Int) ^^^ BitVec.ofInt 64 18446744073709551615).toNat : Int) = _
  rw [e, BitVec.toNat_not, BitVec.toNat_ofNat, IntKind.wrap_u64]
  omega
theorem varint_Put.zz_eq (n : Int) (h : Vm.I64 n) : Go.bits .xor .u64 (IntKind.u64.wrap (IntKind.u64.wrap n * 2)) (IntKind.u64.wrap (n / 9223372036854775808)) = (Vm.zz n : Int) := by
  unfold Vm.I64 at h
  rw [IntKind.wrap_u64, IntKind.wrap_u64, IntKind.wrap_u64]
  by_cases h0 : n < 0
  · have e1 : (n / 9223372036854775808) % 18446744073709551616 = 18446744073709551615 := by omega
    obtain ⟨a, ha⟩ := Int.eq_ofNat_of_zero_le (show 0 ≤ n % 18446744073709551616 * 2 % 18446744073709551616 by omega)
    rw [e1, ha, varint_Put.bits_xor1 a (by omega)]
    unfold Vm.zz
    rw [if_pos h0]
    omega
  · have e1 : (n / 9223372036854775808) % 18446744073709551616 = 0 := by omega
    obtain ⟨a, ha⟩ := Int.eq_ofNat_of_zero_le (show 0 ≤ n % 18446744073709551616 * 2 % 18446744073709551616 by omega)
    rw [e1, ha, varint_Put.bits_xor0 a (by omega)]
    unfold Vm.zz
    rw [if_neg h0]
    omega
theorem varint_Put.or128 (v : Nat) : Go.bits .or .u8 ((v : Int) % 256) 128 = ((v % 128 + 128 : Nat) : Int) := by
  have key : ∀ a : Fin 256, Go.bits .or .u8 ((a.val : Nat) : Int) 128 = ((a.val % 128 + 128 : Nat) : Int) := by decide +kernel
  have := key ⟨v % 256, by omega⟩
  simp only at this
  rw [show (v : Int) % 256 = ((v % 256 : Nat) : Int) by omega, this]
  omega
theorem varint_Put.cut (b j : Nat) (hj : j < 10) (W : World) : (Instr.sliceAt 51 (.pointer (some ⟨b, 0, none⟩)) none (some (.int .i64 ((j : Int) + 1))) none).run Try.prog W = .ok (.slice (some ⟨b, 0, none⟩) (j + 1) 10) W := by
  have hl : Try.prog.arrayLen 51 = 10 := by kernel_rfl
  have hs : ∀ W : World, (sizeOf (Try.prog.elem 51)).run Try.prog W = .ok 1 W := fun W => by rfl
  rw [run_sliceAt_array_h W 51 _ Try.underlying51 .i64 _ (by omega) (by rw [hl]; omega), hs, hl]
  have e : ((j : Int) + 1).toNat = j + 1 := by omega
  simp [Result.andThen, slicedAt, e, Addr.add]
theorem varint_Put.told (W : World) (base b j : Nat) (hj : j < 10) (pre : List UInt8) (xs : List Int) (v : Nat) (hv : v < 256) (hp : pre.length = j) (hl : xs.length = 10) (ht : xs.take j = pre.map fun c => (c.toNat : Int))
    (ho : W.ownsRow base 51 1 (.slice (some ⟨b, 0, none⟩) 10 10) 10 (nums .u8 xs)) :
    (convert 52 9 (.slice (some ⟨b, 0, none⟩) (j + 1) 10)).run Try.prog (W.setCell ⟨b, j, none⟩ (.int .u8 (v : Int))) = .ok (.string (Vm.bs (pre ++ [UInt8.ofNat v]))) (W.setCell ⟨b, j, none⟩ (.int .u8 (v : Int))) := by
  have hst := (own_store ho (j : Int) (v : Int)).1
  rw [Int.toNat_natCast] at hst
  have hx : ((xs.set j (v : Int)).take (j + 1)) = (pre ++ [UInt8.ofNat v]).map fun c => (c.toNat : Int) := by
    rw [List.take_succ_eq_append_getElem (by simp; omega), List.take_set_of_le (by omega), ht]
    simp [Vm.toNat_ofNat_lt hv]
  rw [run_convert_bytes_arg _ 52 5 Try.underlying52 Try.underlying5 b 0 (j + 1) 10 ((xs.set j (v : Int)).take (j + 1)) (by simp; omega) (fun i hi => ?_) 9 Try.underlying9]
  · rw [hx, Vm.strOfNums_bs, List.map_map]
    congr 3
    have : ((fun n : Int => UInt8.ofNat n.toNat) ∘ fun c : UInt8 => (c.toNat : Int)) = id := by
      funext c
      simp
    rw [this, List.map_id]
  · have hc := (own_at hst (i : Int) (by omega) (by omega)).1
    rw [Int.toNat_natCast] at hc
    rw [Nat.zero_add, hc]
    simp [rd, List.getD_eq_getElem?_getD, List.getElem?_take, hi]
set_option maxHeartbeats 8000000 in
set_option maxRecDepth 100000 in
theorem varint_Put.calls (a0 : Int) (r : ByteArray) (w : World) (h : varint_Put.f a0 = some r) :
    Calls Try.prog 12 #[.int .i64 a0] w fun e w' => e = .returned (.string r) ∧ Below w.heap.size w w' := by
  unfold varint_Put.f at h
  split at h
  case isFalse => cases h
  rename_i hn
  have hr : r = Vm.bs (Vm.enc a0) := by injection h with h; exact h.symm
  clear h
  have hz := Lib.hid (varint_Put.zz_eq a0 hn)
  have hzl := Lib.hid (Vm.zz_lt.2 hn)
  have HR := Lib.hid hr
  clear hr hn
  go_enter Try.func12, Try.ntmps12
  go_wp2
  go_loopw [3, 5] (fun u k wr => ∃ (j f v : Nat) (pre : List UInt8) (xs : List Int), j + f = 9 ∧ u = .int .u64 v ∧ k = .int .i64 j ∧ v < 2 * 128 ^ f ∧ Aside0 (Vm.enc a0 = pre ++ Vm.sev f v) ∧ Aside0 (pre.length = j) ∧ Aside0 (xs.length = 10) ∧ Aside0 (xs.take j = pre.map fun b => (b.toNat : Int)) ∧ Aside0 (wr.ownsRow w.heap.size 51 1 (.slice (some ⟨w.heap.size, 0, none⟩) 10 10) 10 (nums .u8 xs)) ∧ Aside0 (Below w.heap.size w wr)) (fun _ k _ => (10 - intOf k).toNat)
  case atStart =>
    exact ⟨0, 9, Vm.zz a0, [], List.replicate 10 0, rfl, by rw [hz.out], rfl, hzl.out, ⟨rfl⟩, ⟨rfl⟩, ⟨rfl⟩, ⟨rfl⟩, ⟨World.ownsRow_lit (base := w.heap.size) (e := 51) (size := 1) w (nums .u8 (List.replicate 10 0)).toArray 10 (Nat.le_refl _) (by decide) (by simp [nums])⟩, ⟨below_alloc (Below.refl _ _) _⟩⟩
  case round =>
    obtain ⟨j, f, v, pre, xs, hj, rfl, rfl, hv, HE, HP, HL, HT, HO, HB⟩ := hrel
    have hj10 : j < 10 := by omega
    have hc := own_at HO.out (j : Int) (by omega) (by omega)
    rw [Int.toNat_natCast] at hc
    obtain ⟨hc1, hc2⟩ := hc
    by_cases hlt : 128 ≤ v
    · have hor := varint_Put.or128 v
      have hf : 0 < f := by
        rcases Nat.eq_zero_or_pos f with h0 | h0
        · subst h0; omega
        · exact h0
      go_wp2
      go_roundw
      case rel =>
        obtain ⟨f, rfl⟩ : ∃ m, f = m + 1 := ⟨f - 1, by omega⟩
        have hs : 2 * 128 ^ (f + 1) = 128 * (2 * 128 ^ f) := by rw [Nat.pow_succ]; omega
        have hst := own_store HO.out (j : Int) ((v : Int) % 128 + 128)
        rw [Int.toNat_natCast] at hst
        have he : (v : Int) % 128 + 128 = ((UInt8.ofNat (v % 128 + 128)).toNat : Int) := by rw [Vm.toNat_ofNat_lt (by omega)]; omega
        refine ⟨j + 1, f, v / 128, pre ++ [UInt8.ofNat (v % 128 + 128)], xs.set j ((v : Int) % 128 + 128), by omega, congrArg (Value.int .u64) (by omega), congrArg (Value.int .i64) (by omega), by omega, ⟨?_⟩, ⟨by simp [HP.out]⟩, ⟨by simp [HL.out]⟩, ⟨?_⟩, ⟨hst.1⟩, ⟨?_⟩⟩
        · rw [HE.out, Vm.sev_succ, if_neg (by omega)]; simp
        · rw [List.take_succ_eq_append_getElem (by simp [HL.out]; omega), List.take_set_of_le (by omega), HT.out]
          rw [List.getElem_set_self, List.map_append, he]
          rfl
        · exact pw_below_grown HB.out _ HB.out.size hst.2 (fun k hk => by injection hk with hk; omega)
      case measure => simp [intOf]; omega
    · have kb := varint_Put.told wr w.heap.size w.heap.size j hj10 pre xs v (by omega) HP.out HL.out HT.out HO.out
      have ks := varint_Put.cut w.heap.size j hj10
      have hr : Vm.bs (pre ++ [UInt8.ofNat v]) = r := by
        rw [HR.out, HE.out]
        congr 2
        cases f with
        | zero => rfl
        | succ f => rw [Vm.sev_succ, if_pos (by omega)]
      rw [hr] at kb
      have hb : Below w.heap.size w (wr.setCell ⟨w.heap.size, j, none⟩ (.int .u8 v)) := by
        have hst := own_store HO.out (j : Int) (v : Int)
        rw [Int.toNat_natCast] at hst
        exact pw_below_grown HB.out _ HB.out.size hst.2 (fun k hk => by injection hk with hk; omega)
      have HBN := Aside0.mk hb
      clear hb hr
      go_wp2
      go_ret
      exact ⟨rfl, HBN.out⟩

/-! ### headgateref01_Put: function 13 -/
mutual
def headgateref01_Put.j0 : Nat → Int → Option (ByteArray)
  | 0, _ => none
  | k + 1, x3 => headgateref01_Put.l0 k x3 ([] : List Int)
def headgateref01_Put.l0 : Nat → Int → List Int → Option (ByteArray)
  | 0, _, _ => none
  | k + 1, x3, x4 => if x3 > 127 then (if x4.length < 140737488355328 then (headgateref01_Put.l0 k (IntKind.u64.wrap (Int.tdiv x3 128)) (x4 ++ [(IntKind.u64.wrap ((Int.tmod x3 128) + 128)) % 256])) else (none)) else (if x4.length < 140737488355328 then (some (strOfNums (x4 ++ [(x3) % 256]))) else (none))
end
def headgateref01_Put.f (k : Nat) (a0 : Int) : Option (ByteArray) := if a0 < 0 then (headgateref01_Put.j0 k (IntKind.u64.wrap ((IntKind.u64.wrap ((IntKind.u64.wrap (wrap64 (-(wrap64 (a0 + 1))))) * 2)) + 1))) else (headgateref01_Put.j0 k (IntKind.u64.wrap ((IntKind.u64.wrap (a0)) * 2)))
theorem headgateref01_Put.mono_l : ∀ k, (∀ y0, LeO (headgateref01_Put.j0 k y0) (headgateref01_Put.j0 (k + 1) y0)) ∧ (∀ y0 y1, LeO (headgateref01_Put.l0 k y0 y1) (headgateref01_Put.l0 (k + 1) y0 y1))
  | 0 => ⟨fun _ r h => by simp [headgateref01_Put.j0] at h, fun _ _ r h => by simp [headgateref01_Put.l0] at h⟩
  | k + 1 => by
    obtain ⟨ih0, ih1⟩ := headgateref01_Put.mono_l k
    refine ⟨?_, ?_⟩
    · intro y0
      unfold headgateref01_Put.j0
      repeat' first
      | (with_reducible exact ih0 _)
      | (with_reducible exact ih1 _ _)
      | (with_reducible exact LeO.refl _)
      | (with_reducible exact LeO.none _)
      | (with_reducible refine LeO.ite ?_ ?_)
      | (with_reducible refine LeO.bind ?_ (fun _ => ?_))
      | exact ih0 _
      | exact ih1 _ _
      | exact LeO.none _
      | refine LeO.ite ?_ ?_
      | refine LeO.bind ?_ (fun _ => ?_)
    · intro y0 y1
      unfold headgateref01_Put.l0
      repeat' first
      | (with_reducible exact ih0 _)
      | (with_reducible exact ih1 _ _)
      | (with_reducible exact LeO.refl _)
      | (with_reducible exact LeO.none _)
      | (with_reducible refine LeO.ite ?_ ?_)
      | (with_reducible refine LeO.bind ?_ (fun _ => ?_))
      | exact ih0 _
      | exact ih1 _ _
      | exact LeO.none _
      | refine LeO.ite ?_ ?_
      | refine LeO.bind ?_ (fun _ => ?_)
theorem headgateref01_Put.mono : ∀ a0 k, LeO (headgateref01_Put.f k a0) (headgateref01_Put.f (k + 1) a0) := by
  intro a0 k
  obtain ⟨ih0, ih1⟩ := headgateref01_Put.mono_l k
  unfold headgateref01_Put.f
  repeat' first
      | (with_reducible exact ih0 _)
      | (with_reducible exact ih1 _ _)
      | (with_reducible exact LeO.refl _)
      | (with_reducible exact LeO.none _)
      | (with_reducible refine LeO.ite ?_ ?_)
      | (with_reducible refine LeO.bind ?_ (fun _ => ?_))
      | exact ih0 _
      | exact ih1 _ _
      | exact LeO.none _
      | refine LeO.ite ?_ ?_
      | refine LeO.bind ?_ (fun _ => ?_)
set_option maxHeartbeats 8000000 in
set_option maxRecDepth 100000 in
theorem headgateref01_Put.calls (k : Nat) (a0 : Int) (r : ByteArray) (w : World) (h : headgateref01_Put.f k a0 = some r) :
    Calls Try.prog 13 #[.int .i64 a0] w fun e w' => e = .returned (.string r) ∧ Below w.heap.size w w' := by
  have HB := Aside0.mk (Below.refl w.heap.size w)
  have H : (if a0 < 0 then (headgateref01_Put.j0 k (IntKind.u64.wrap ((IntKind.u64.wrap ((IntKind.u64.wrap (wrap64 (-(wrap64 (a0 + 1))))) * 2)) + 1))) else (headgateref01_Put.j0 k (IntKind.u64.wrap ((IntKind.u64.wrap (a0)) * 2)))) = some r := h
  clear h
  have HC2 := Aside0.mk H
  clear H
  go_enter Try.func13, Try.ntmps13
  go_upto_if 9 with (fail)
  go_cut [3] (fun v3 wc => ∃ (kq : Nat) (x3_1 : Int), v3 = .int .u64 x3_1 ∧ Aside0 (headgateref01_Put.j0 kq x3_1 = some r) ∧ Aside0 (kq ≤ k) ∧ Aside0 (Below w.heap.size w wc))
  case first =>
    have H := HC2.out
    clear HC2
    by_cases c3 : a0 < 0
    · rw [if_pos c3] at H
      have c3b0 : decide (a0 < 0) = true := decide_eq_true c3
      clear c3
      (first | rw [c3b0] | (simp only [i64_w, i32_w]; rw [c3b0]) | skip)
      have H' := Aside0.mk H
      clear H
      go_wp2
      go_meet
      case rel => exact ⟨_, (IntKind.u64.wrap ((IntKind.u64.wrap ((IntKind.u64.wrap (wrap64 (-(wrap64 (a0 + 1))))) * 2)) + 1)), (by first | rfl | (simp; done) | (simp [*]; done)), H', ⟨by first | omega | exact Nat.le_refl _⟩, ⟨by repeat (first | (with_reducible first | exact HB.out | apply below_alloc | apply pw_below_drewN | apply below_drew1) | exact HB.out)⟩⟩
    · rw [if_neg c3] at H
      have c3b0 : decide (a0 < 0) = false := decide_eq_false c3
      clear c3
      (first | rw [c3b0] | (simp only [i64_w, i32_w]; rw [c3b0]) | skip)
      have H' := Aside0.mk H
      clear H
      go_wp2
      go_meet
      case rel => exact ⟨_, (IntKind.u64.wrap ((IntKind.u64.wrap (a0)) * 2)), (by first | rfl | (simp; done) | (simp [*]; done)), H', ⟨by first | omega | exact Nat.le_refl _⟩, ⟨by repeat (first | (with_reducible first | exact HB.out | apply below_alloc | apply pw_below_drewN | apply below_drew1) | exact HB.out)⟩⟩
  case rest =>
    clear HC2
    try clear c1
    try clear p2
    try clear c3
    try clear c3b0
    obtain ⟨kq, x3_1, rfl, HA, HJ1, HB⟩ := hcut
    cases kq with
    | zero => exact absurd HA.out (by simp [headgateref01_Put.j0])
    | succ kj1 =>
      have H := HA.out
      clear HA
      simp only [headgateref01_Put.j0] at H
      have H' := Aside0.mk H
      clear H
      go_wp2
      go_loopg [3, 4] kj1 (fun kq v3 v4 w' => ∃ (x3_2 : Int) (x4_2 : List Int), v3 = .int .u64 x3_2 ∧ Aside0 (headgateref01_Put.l0 kq x3_2 x4_2 = some r) ∧ Aside0 (kq ≤ kj1) ∧ Aside0 (Kd.R (Kd.int .u8) 5 w' w.heap.size (fun _ => True) v4 x4_2) ∧ Aside0 (Below w.heap.size w w'))
      case atStart => exact ⟨(x3_1), (([] : List Int)), (by first | rfl | (simp; done) | (simp [*]; done)), H', ⟨Nat.le_refl _⟩, ⟨by first | exact Kd.R_nil _ _ _ _ _ | exact Kd.N_nil _ _ _ _ _ | exact Kd.V_nil _ _ _ _ _ | exact Kd.Q_nil _ _ _ _ _ | exact Kd.S_nil _ _ _ _ _⟩, ⟨by repeat (first | (with_reducible first | exact HB.out | apply below_alloc | apply pw_below_drewN | apply below_drew1) | exact HB.out)⟩⟩
      case round =>
        clear H'
        try clear c1
        try clear p2
        try clear c3
        try clear c3b0
        try clear p2
        obtain ⟨x3_2, x4_2, rfl, HA, HK2, HO_4, HB⟩ := hrel
        cases gk with
        | zero => exact absurd HA.out (by simp [headgateref01_Put.l0])
        | succ k2 =>
          have H := HA.out
          clear HA
          simp only [headgateref01_Put.l0] at H
          by_cases c4 : x3_2 > 127
          · rw [if_pos c4] at H
            have c4b0 : decide (127 < x3_2) = true := decide_eq_true c4
            clear c4
            by_cases c5 : x4_2.length < 140737488355328
            · rw [if_pos c5] at H
              have LMc5 := Aside0.mk c5
              clear c5
              obtain ⟨y101, hy101⟩ : ∃ y_ : List Int, y_ = (x4_2 ++ [(IntKind.u64.wrap ((Int.tmod x3_2 128) + 128)) % 256]) := ⟨_, rfl⟩
              replace H : (headgateref01_Put.l0 k2 (IntKind.u64.wrap (Int.tdiv x3_2 128)) y101) = some r := by first | (rw [hy101]; with_reducible exact H) | (have H2_ := (Option.bind_some _ _).symm.trans H; rw [hy101]; with_reducible exact H2_) | (have H2_ := (Option.bind_some _ _).symm.trans H; with_reducible exact H2_) | with_reducible exact H | (rw [hy101]; exact H) | exact H
              have Ny101 := Aside0.mk hy101
              clear hy101
              have H' := Aside0.mk H
              clear H
              go_wp2_with (first | ((with_reducible refine gate_builtin (b := .append) (xs := #[.tmp 18, .tmp 23]) rfl ?_); at_builtin; refine Kd.R_append (Kd.int .u8) (w0 := w) w.heap.size rfl (.tmp 18) (.tmp 23) 52 5 (.int .u8 0) 1 rfl Try.underlying52 info5 rfl (by decide) (by omega) u4 x4_2 ((IntKind.u64.wrap ((Int.tmod x3_2 128) + 128)) % 256) [.int .u8 ((IntKind.u64.wrap ((Int.tmod x3_2 128) + 128)) % 256)] (fun _ => True) (fun _ => False) rfl rfl ?aP (fun _ hk => hk.elim) ?aF ?aO ?aB ?aS ?aL ?_; (case aP => exact rfl); (case aB => exact (by repeat (first | (with_reducible first | exact HB.out | apply below_alloc | apply pw_below_drewN | apply below_drew1) | exact HB.out))); (case aF => exact (fun _ _ => trivial)); (case aO => exact (by (with_reducible repeat (first | apply Kd.R_alloc | apply Kd.R_drewN | apply Kd.R_drew)); exact HO_4.out)); (case aS => exact (below_size (by repeat (first | (with_reducible first | exact HB.out | apply below_alloc | apply pw_below_drewN | apply below_drew1) | exact HB.out)))); (case aL => have := LMc5.out; omega); intro v102 w6 ho hb hg hat; rw [← Ny101.out] at ho; have n0_ := Aside0.mk (hb); have n1_ := Aside0.mk (ho); clear HB; clear HO_4; have HB := n0_; have HO103 := n1_; clear n0_ n1_; clear ho hb hg hat))
              go_roundg k2
              case measure => have := HJ1.out; have := HK2.out; omega
              case rel => exact ⟨(IntKind.u64.wrap (Int.tdiv x3_2 128)), (y101), (by first | rfl | (simp; done) | (simp [*]; done)), H', ⟨by have := HJ1.out; have := HK2.out; omega⟩, ⟨by (with_reducible repeat (first | apply Kd.R_alloc | apply Kd.R_drewN | apply Kd.R_drew)); exact HO103.out⟩, ⟨by repeat (first | (with_reducible first | exact HB.out | apply below_alloc | apply pw_below_drewN | apply below_drew1) | exact HB.out)⟩⟩
            · rw [if_neg c5] at H
              exact absurd H (by simp)
          · rw [if_neg c4] at H
            have c4b0 : decide (127 < x3_2) = false := decide_eq_false c4
            clear c4
            by_cases c7 : x4_2.length < 140737488355328
            · rw [if_pos c7] at H
              have LMc7 := Aside0.mk c7
              clear c7
              obtain ⟨y104, hy104⟩ : ∃ y_ : List Int, y_ = (x4_2 ++ [(x3_2) % 256]) := ⟨_, rfl⟩
              replace H : (some (strOfNums y104)) = some r := by first | (rw [hy104]; with_reducible exact H) | (have H2_ := (Option.bind_some _ _).symm.trans H; rw [hy104]; with_reducible exact H2_) | (have H2_ := (Option.bind_some _ _).symm.trans H; with_reducible exact H2_) | with_reducible exact H | (rw [hy104]; exact H) | exact H
              have Ny104 := Aside0.mk hy104
              clear hy104
              obtain rfl := Option.some.inj H
              go_wp2_with (first | ((with_reducible refine gate_builtin (b := .append) (xs := #[.tmp 27, .tmp 30]) rfl ?_); at_builtin; refine Kd.R_append (Kd.int .u8) (w0 := w) w.heap.size rfl (.tmp 27) (.tmp 30) 52 5 (.int .u8 0) 1 rfl Try.underlying52 info5 rfl (by decide) (by omega) u4 x4_2 ((x3_2) % 256) [.int .u8 ((x3_2) % 256)] (fun _ => True) (fun _ => False) rfl rfl ?aP (fun _ hk => hk.elim) ?aF ?aO ?aB ?aS ?aL ?_; (case aP => exact rfl); (case aB => exact (by repeat (first | (with_reducible first | exact HB.out | apply below_alloc | apply pw_below_drewN | apply below_drew1) | exact HB.out))); (case aF => exact (fun _ _ => trivial)); (case aO => exact (by (with_reducible repeat (first | apply Kd.R_alloc | apply Kd.R_drewN | apply Kd.R_drew)); exact HO_4.out)); (case aS => exact (below_size (by repeat (first | (with_reducible first | exact HB.out | apply below_alloc | apply pw_below_drewN | apply below_drew1) | exact HB.out)))); (case aL => have := LMc7.out; omega); intro v105 w8 ho hb hg hat; rw [← Ny104.out] at ho; have n0_ := Aside0.mk (hb); have n1_ := Aside0.mk (ho); clear HB; clear HO_4; have HB := n0_; have HO106 := n1_; clear n0_ n1_; clear ho hb hg hat; have hcv9 := own_string (P := Try.prog) Try.underlying52 Try.underlying5 Try.underlying9 (Kd.own_of_R HO106.out)))
              go_ret
              exact ⟨by first | rfl | (simp [errW_none, errW_some] <;> rfl) | (simp [*, errW_none, errW_some] <;> rfl), by repeat (first | (with_reducible first | exact HB.out | apply below_alloc | apply pw_below_drewN | apply below_drew1) | exact HB.out)⟩
            · rw [if_neg c7] at H
              exact absurd H (by simp)

/-! ### varint_Take: function 15 -/
theorem varint_Take.scope {P : Program} {a : Act} {w : World} {Q : Exit → Act → World → Prop} {c rest : Code} (l : Nat) (J : Act → World → Prop) (μ : Act → World → Nat) (hf : findLabel c l = some (Code.seq Code.skip rest))
    (first : (∀ a w, J a w → rest.wp P (Exit.jump l J Q) a w) → c.wp P (Exit.jump l J Q) a w)
    (pass : ∀ a w, J a w → rest.wp P (Exit.jump l (fun a' w' => J a' w' ∧ μ a' w' < μ a w) Q) a w) : (Code.scope c).wp P Q a w :=
  wp_scope_jumps l J μ hf (first fun a w h => wp_mono (pass a w h) fun e a' w' hq => by
    cases e with
    | goto l' => exact ⟨hq.1, hq.2.1⟩
    | _ => exact hq) fun a w h => wp_seq (wp_skip (pass a w h))
def varint_Take.f (a0 : ByteArray) : Option (Int × ByteArray × Int) := if a0.size ≤ 9223372036854775807 then some (Vm.takeR (Vm.dec a0.data.toList)) else none
/-- What is left behind j bytes that are 128 or more, and come to u. -/
def varint_Take.left (l : List UInt8) (j u : Nat) : Option (Int × List UInt8) :=
  if j = 10 then none else (Vm.dec1 (9 - j) (decide (j = 0)) (l.drop j)).map fun p => (Vm.uz (u + 128 ^ j * p.1), p.2)
theorem varint_Take.left_end (l : List UInt8) (j u : Nat) (h : l.length ≤ j) : varint_Take.left l j u = none := by
  unfold varint_Take.left
  split
  · rfl
  · rw [List.drop_of_length_le h]
    cases 9 - j <;> simp [Vm.dec1]
theorem varint_Take.left_on (l : List UInt8) (j u : Nat) (hj : j < 10) (h : j < l.length) (c : Nat) (hc : (l.getD j 0).toNat = c) (hc1 : 128 ≤ c) (u' : Nat) (hu : j < 9 → u' = u + 128 ^ j * (c % 128)) :
    varint_Take.left l j u = varint_Take.left l (j + 1) u' := by
  have hlt := (l.getD j 0).toNat_lt
  have hd : l.drop j = l.getD j 0 :: l.drop (j + 1) := by
    rw [List.drop_eq_getElem_cons h, List.getD_eq_getElem?_getD, List.getElem?_eq_getElem h]
    rfl
  unfold varint_Take.left
  rw [if_neg (by omega), hd]
  rcases Nat.lt_or_ge j 9 with h9 | h9
  · rw [if_neg (by omega), show 9 - j = (9 - (j + 1)) + 1 by omega]
    simp only [Vm.dec1]
    rw [if_neg (by rw [hc]; omega)]
    simp only [Option.map_map]
    rw [show decide (j + 1 = 0) = false by simp]
    refine congrArg (fun g => Option.map g (Vm.dec1 (9 - (j + 1)) false (l.drop (j + 1)))) ?_
    funext p
    simp only [Function.comp]
    rw [hu h9, Nat.pow_succ, hc, show c % 128 = c - 128 by omega]
    have : u + 128 ^ j * (p.1 * 128 + (c - 128)) = u + 128 ^ j * (c - 128) + 128 ^ j * 128 * p.1 := by
      rw [Nat.mul_add, Nat.mul_assoc, Nat.mul_comm 128 p.1]
      omega
    rw [this]
  · obtain rfl : j = 9 := by omega
    rw [if_pos rfl]
    simp only [Nat.sub_self, Vm.dec1]
    rw [if_neg (by rw [hc]; omega)]
    rfl
theorem varint_Take.left_last (l : List UInt8) (j u : Nat) (hj : j < 10) (h : j < l.length) (c : Nat) (hc : (l.getD j 0).toNat = c) (hc1 : c < 128) :
    varint_Take.left l j u = if (0 < j ∧ c = 0) ∨ (j = 9 ∧ 1 < c) then none else some (Vm.uz (u + 128 ^ j * c), l.drop (j + 1)) := by
  have hd : l.drop j = l.getD j 0 :: l.drop (j + 1) := by
    rw [List.drop_eq_getElem_cons h, List.getD_eq_getElem?_getD, List.getElem?_eq_getElem h]
    rfl
  unfold varint_Take.left
  rw [if_neg (by omega), hd]
  rcases Nat.lt_or_ge j 9 with h9 | h9
  · rw [show 9 - j = (9 - (j + 1)) + 1 by omega]
    simp only [Vm.dec1]
    rw [hc, if_pos hc1]
    by_cases hb : 0 < j ∧ c = 0
    · rw [if_pos (by simp; omega), if_pos (.inl hb)]
      rfl
    · rw [if_neg (by simp; omega), if_neg (by omega)]
      rfl
  · obtain rfl : j = 9 := by omega
    simp only [Nat.sub_self, Vm.dec1]
    rw [hc, if_pos hc1]
    by_cases hb : c = 0 ∨ 1 < c
    · rw [if_pos (by exact hb.imp_left fun hb => ⟨rfl, hb⟩), if_pos (hb.imp (fun hb => ⟨by decide, hb⟩) (fun hb => ⟨trivial, hb⟩))]
      rfl
    · rw [if_neg (by rintro (⟨_, h⟩ | h) <;> omega), if_neg (by omega)]
      rfl
theorem varint_Take.joined (j u c : Nat) (hj : j < 10) (hu : u < 128 ^ j) (hc : c < 256) : ∃ u' : Nat, Go.bits .or .u64 (u : Int) (IntKind.u64.wrap (IntKind.u64.wrap (Go.bits .and .u8 (c : Int) 127) * 2 ^ (7 * j))) = (u' : Int) ∧ ((j < 9 ∨ c ≤ 1) → u' = u + 128 ^ j * (c % 128)) := by
  have h1 : Go.bits .and .u8 (c : Int) 127 = ((c % 128 : Nat) : Int) := by
    have := bits_mask .u8 8 (by decide) wraps_u8 7 (by decide) (c : Int) (by omega) (by omega)
    rw [show (127 : Int) = 2 ^ 7 - 1 by decide, this]
    omega
  have h2 : IntKind.u64.wrap ((c % 128 : Nat) : Int) = ((c % 128 : Nat) : Int) := by rw [IntKind.wrap_u64]; omega
  have h3 : ((2 : Int) ^ (7 * j)) = ((128 ^ j : Nat) : Int) := by
    rw [Int.pow_mul]
    simp
  rw [h1, h2, h3]
  have h4 : ((c % 128 : Nat) : Int) * ((128 ^ j : Nat) : Int) = ((128 ^ j * (c % 128) : Nat) : Int) := by rw [Nat.mul_comm]; exact (Int.natCast_mul _ _).symm
  rw [h4]
  obtain ⟨x, hx⟩ : ∃ x : Nat, x = 128 ^ j * (c % 128) := ⟨_, rfl⟩
  rw [← hx]
  have h5 : IntKind.u64.wrap (x : Int) = ((x % 18446744073709551616 : Nat) : Int) := by rw [IntKind.wrap_u64]; omega
  have hp : 128 ^ j ≤ 128 ^ 9 := Nat.pow_le_pow_right (by decide) (by omega)
  rw [h5, (bits_nat .u64 64 (by decide) (fun n h0 h1 => by rw [IntKind.wrap_u64]; omega) u (x % 18446744073709551616) (by omega) (by omega)).2]
  refine ⟨_, rfl, fun hh => ?_⟩
  have hlt : x < 18446744073709551616 := by
    rcases hh with hh | hh
    · have hp8 : 128 ^ j ≤ 128 ^ 8 := Nat.pow_le_pow_right (by decide) (by omega)
      have : x ≤ 128 ^ 8 * 127 := by rw [hx]; exact Nat.mul_le_mul hp8 (by omega)
      omega
    · have : x ≤ 128 ^ 9 * 1 := by rw [hx]; exact Nat.mul_le_mul hp (by omega)
      omega
  rw [Nat.mod_eq_of_lt hlt, hx]
  have h7 : (128 : Nat) ^ j = 2 ^ (7 * j) := by rw [Nat.pow_mul]
  rw [h7] at hu ⊢
  rw [Nat.or_comm, ← Nat.two_pow_add_eq_or_of_lt hu]
  omega
theorem varint_Take.uz_eq (u : Nat) (hu : u < 18446744073709551616) : Go.bits .xor .i64 (IntKind.i64.wrap ((u : Int) / 2)) (IntKind.i64.wrap (-(IntKind.i64.wrap (Go.bits .and .u64 (u : Int) 1)))) = Vm.uz u := by
  have h1 : Go.bits .and .u64 (u : Int) 1 = ((u % 2 : Nat) : Int) := by
    have := bits_mask .u64 64 (by decide) (fun n h0 h1 => by rw [IntKind.wrap_u64]; omega) 1 (by decide) (u : Int) (by omega) (by omega)
    rw [show (1 : Int) = 2 ^ 1 - 1 by decide, this]
    omega
  have h2 : IntKind.i64.wrap ((u : Int) / 2) = ((u / 2 : Nat) : Int) := by rw [IntKind.wrap_i64]; omega
  have h3 : IntKind.i64.wrap ((u % 2 : Nat) : Int) = ((u % 2 : Nat) : Int) := by rw [IntKind.wrap_i64]; omega
  rw [h1, h2, h3]
  unfold Vm.uz
  by_cases hb : u % 2 = 1
  · rw [if_pos hb, hb]
    have h4 : IntKind.i64.wrap (-((1 : Nat) : Int)) = -1 := by rw [IntKind.wrap_i64]; omega
    rw [h4]
    have e : BitVec.ofInt 64 ((u / 2 : Nat) : Int) ^^^ BitVec.ofInt 64 (-1) = ~~~ BitVec.ofNat 64 (u / 2) := by
      rw [show BitVec.ofInt 64 (-1) = BitVec.allOnes 64 by decide, BitVec.xor_allOnes, BitVec.ofInt_natCast]
    unfold Go.bits
    show IntKind.i64.wrap ((BitVec.ofInt 64 ((u / 2 : Nat) : Int) ^^^ BitVec.ofInt 64 (-1)).toNat : Int) = _
    rw [e, BitVec.toNat_not, BitVec.toNat_ofNat, IntKind.wrap_i64]
    omega
  · rw [if_neg hb, show u % 2 = 0 by omega]
    have h4 : IntKind.i64.wrap (-((0 : Nat) : Int)) = 0 := by rw [IntKind.wrap_i64]; omega
    rw [h4]
    have e : BitVec.ofInt 64 ((u / 2 : Nat) : Int) ^^^ BitVec.ofInt 64 0 = BitVec.ofNat 64 (u / 2) := by rw [BitVec.ofInt_natCast]; simp
    unfold Go.bits
    show IntKind.i64.wrap ((BitVec.ofInt 64 ((u / 2 : Nat) : Int) ^^^ BitVec.ofInt 64 0).toNat : Int) = _
    rw [e, BitVec.toNat_ofNat, IntKind.wrap_i64]
    omega
theorem varint_Take.uz_eq' (u : Nat) (hu : u < 18446744073709551616) : Go.bits .xor .i64 (wrap64 ((u : Int) / 2)) (wrap64 (-(wrap64 (Go.bits .and .u64 (u : Int) 1)))) = Vm.uz u := by
  have h := varint_Take.uz_eq u hu
  rw [IntKind.wrap_i64, IntKind.wrap_i64, IntKind.wrap_i64] at h
  unfold wrap64
  exact h
theorem varint_Take.bad {d : Option (Int × List UInt8)} {r1 : Int} {r2 : ByteArray} {r3 : Int} (h : Vm.takeR d = (r1, r2, r3)) (hd : d = none) : Ending.returned (.tuple #[.int .i64 0, .string ⟨#[]⟩, .int .i64 2]) = .returned (.tuple #[.int .i64 r1, .string r2, .int .i64 r3]) := by
  subst hd
  simp only [Vm.takeR, Prod.mk.injEq] at h
  obtain ⟨rfl, rfl, rfl⟩ := h
  rfl
theorem varint_Take.good {d : Option (Int × List UInt8)} {r1 : Int} {r2 : ByteArray} {r3 n : Int} {s : ByteArray} {l : List UInt8} (h : Vm.takeR d = (r1, r2, r3)) (hd : d = some (n, l)) (hs : s.data.toList = l) : Ending.returned (.tuple #[.int .i64 n, .string s, .int .i64 0]) = .returned (.tuple #[.int .i64 r1, .string r2, .int .i64 r3]) := by
  subst hd
  simp only [Vm.takeR, Prod.mk.injEq] at h
  obtain ⟨rfl, rfl, rfl⟩ := h
  rw [← hs, Vm.bs_data]
set_option maxHeartbeats 8000000 in
set_option maxRecDepth 100000 in
theorem varint_Take.calls (a0 : ByteArray) (r1 : Int) (r2 : ByteArray) (r3 : Int) (w : World) (h : varint_Take.f a0 = some (r1, r2, r3)) :
    Calls Try.prog 15 #[.string a0] w fun e w' => e = .returned (.tuple #[.int .i64 r1, .string r2, .int .i64 r3]) ∧ Drawn0 w w' := by
  unfold varint_Take.f at h
  split at h
  case isFalse => cases h
  rename_i hs
  have hr : Vm.takeR (Vm.dec a0.data.toList) = (r1, r2, r3) := by injection h
  have HR := Lib.hid hr
  have HS := Lib.hid hs
  have hsz : a0.data.toList.length = a0.size := data_length a0
  have HZ := Lib.hid hsz
  clear hr h hs hsz
  go_enter Try.func15, Try.ntmps15
  go_wp2
  refine varint_Take.scope 0 (fun a' w' => w' = w ∧ ∃ (j u : Nat) (x7 x8 x9 x10 x11 x12 x13 x14 x15 x16 x17 x18 x19 x20 x21 x22 x23 x24 x25 x26 x27 x28 x29 x30 : Value), a' = { tmps := #[.string a0, undef, .int .i64 0, .string ⟨#[]⟩, .int .i64 0, .int .u64 (u : Int), .int .i64 (j : Int), x7, x8, x9, x10, x11, x12, x13, x14, x15, x16, x17, x18, x19, x20, x21, x22, x23, x24, x25, x26, x27, x28, x29, x30, undef, undef, undef, undef, undef, undef, undef, undef, undef, undef, undef, undef, undef, undef, undef, undef, undef, undef, undef, undef, undef, undef, undef, undef, undef], defers := [] } ∧ j ≤ 10 ∧ j ≤ a0.size ∧ Aside0 (j < 10 → u < 128 ^ j) ∧ Aside0 (Vm.dec a0.data.toList = varint_Take.left a0.data.toList j u)) (fun a' _ => (10 - intOf (a'.tmps.getD 6 undef)).toNat) rfl ?_ ?_
  · intro hp
    go_wp2
    go_step3
    rename_i K hK
    exact hK _ _ (hp _ _ ⟨rfl, 0, 0, _, _, _, _, _, _, _, _, _, _, _, _, _, _, _, _, _, _, _, _, _, _, _, _, rfl, by omega, by omega, ⟨fun _ => by simp⟩, ⟨by simp [varint_Take.left, Vm.dec]⟩⟩)
  · rintro a w' ⟨rfl, j, u, x7, x8, x9, x10, x11, x12, x13, x14, x15, x16, x17, x18, x19, x20, x21, x22, x23, x24, x25, x26, x27, x28, x29, x30, rfl, hj10, hjs, HU, HD⟩
    by_cases h1 : j = a0.size
    · have hb := Lib.hid (varint_Take.bad HR.out (HD.out.trans (varint_Take.left_end _ _ _ (by rw [HZ.out]; omega))))
      go_wp2
      simp only [Exit.jump]
      go_ret3
      exact ⟨hb.out, Drawn0.refl _⟩
    · have hlt : j < a0.size := by omega
      have h1b : ((j : Int) == (a0.size : Int)) = false := beq_eq_false_iff_ne.mpr (by omega)
      have h1c : (j == a0.size) = false := beq_eq_false_iff_ne.mpr (by omega)
      by_cases h2 : j = 10
      · have hb := Lib.hid (varint_Take.bad HR.out (HD.out.trans (by subst h2; rfl)))
        go_wp2
        simp only [Exit.jump]
        go_ret3
        exact ⟨hb.out, Drawn0.refl _⟩
      · have h2b : ((j : Int) == 10) = false := beq_eq_false_iff_ne.mpr (by omega)
        have hj9 : j ≤ 9 := by omega
        obtain ⟨c, hcq⟩ : ∃ c : Nat, (a0.data.toList.getD j 0).toNat = c := ⟨_, rfl⟩
        have hc256 : c < 256 := by rw [← hcq]; exact (a0.data.toList.getD j 0).toNat_lt
        have hcj : ∀ h : j < a0.size, ((a0[j]'h).toNat : Int) = (c : Int) := fun h => by
          rw [← hcq, List.getD_eq_getElem?_getD, List.getElem?_eq_getElem (by rw [HZ.out]; exact h)]
          rfl
        have HC := Lib.hid hcq
        clear hcq
        obtain ⟨u', hor, hu'⟩ := varint_Take.joined j u c (by omega) (HU.out (by omega)) hc256
        have HU' := Lib.hid hu'
        clear hu' h1 h2
        by_cases h3 : 128 ≤ c
        · have hon := Lib.hid (varint_Take.left_on _ j u (by omega) (by rw [HZ.out]; exact hlt) c HC.out h3 u' (fun h9 => HU'.out (.inl h9)))
          go_wp2
          go_step3
          refine ⟨rfl, ⟨rfl, j + 1, u', _, _, _, _, _, _, _, _, _, _, _, _, _, _, _, _, _, _, _, _, _, _, _, _, rfl, by omega, by omega, ⟨fun h => ?_⟩, ⟨HD.out.trans hon.out⟩⟩, ?_⟩
          · have hu := HU.out (by omega)
            rw [HU'.out (.inl (by omega)), Nat.pow_succ]
            have : 128 ^ j * (c % 128) ≤ 128 ^ j * 127 := Nat.mul_le_mul_left _ (by omega)
            omega
          · simp [intOf]
            omega
        · have hlast := Lib.hid (varint_Take.left_last _ j u (by omega) (by rw [HZ.out]; exact hlt) c HC.out (by omega))
          by_cases h4 : (0 < j ∧ c = 0) ∨ (j = 9 ∧ 1 < c)
          · have hb := Lib.hid (varint_Take.bad HR.out (HD.out.trans (hlast.out.trans (if_pos h4))))
            clear hlast
            rcases h4 with ⟨h4, h5⟩ | ⟨h4, h5⟩
            · subst h5
              go_wp2
              simp only [Exit.jump]
              go_ret3
              exact ⟨hb.out, Drawn0.refl _⟩
            · subst h4
              have h6 : ((c : Int) == 0) = false := beq_eq_false_iff_ne.mpr (by omega)
              go_wp2
              simp only [Exit.jump]
              go_ret3
              exact ⟨hb.out, Drawn0.refl _⟩
          · have hg := Lib.hid (varint_Take.good (s := a0.extract (j + 1) a0.size) HR.out (HD.out.trans (hlast.out.trans (if_neg h4))) (by rw [← HZ.out]; simp [ByteArray.data_extract]; exact List.take_of_length_le (by simp)))
            have hue : u' = u + 128 ^ j * c := by
              have := HU'.out (by omega)
              rwa [show c % 128 = c by omega] at this
            have hul : u' < 18446744073709551616 := by
              have hu := HU.out (by omega)
              rcases Nat.lt_or_ge j 9 with h9 | h9
              · have hp8 : 128 ^ j ≤ 128 ^ 8 := Nat.pow_le_pow_right (by decide) (by omega)
                have : 128 ^ j * c ≤ 128 ^ 8 * 127 := Nat.mul_le_mul hp8 (by omega)
                omega
              · obtain rfl : j = 9 := by omega
                have : 128 ^ 9 * c ≤ 128 ^ 9 * 1 := Nat.mul_le_mul_left _ (by omega)
                omega
            have huz := varint_Take.uz_eq' u' hul
            rw [← hue] at hg
            have hj1 : ((j : Int) + 1).toNat = j + 1 := by omega
            clear hlast hul
            have HUE := Lib.hid hue
            clear hue
            have H4 := Lib.hid h4
            clear h4
            rcases Nat.eq_zero_or_pos j with h5 | h5
            · have h6 : decide (0 < (j : Int)) = false := decide_eq_false (by omega)
              have h7 : decide (1 < (j : Int) + 1) = false := decide_eq_false (by omega)
              have h8 : ((j : Int) + 1 == 10) = false := beq_eq_false_iff_ne.mpr (by omega)
              have H5 := Lib.hid h5
              clear h5
              go_wp2
              go_quiet (fail)
              go_wp2
              simp only [Exit.jump]
              go_ret3
              exact ⟨hg.out, ⟨⟨_, rfl⟩⟩⟩
            · have h6 : ((c : Int) == 0) = false := beq_eq_false_iff_ne.mpr (by have := H4.out; omega)
              by_cases h7 : j = 9
              · have h8 : decide (1 < (c : Int)) = false := decide_eq_false (by have := H4.out; omega)
                have h9 : ((j : Int) + 1 == 10) = true := beq_iff_eq.mpr (by omega)
                have H7 := Lib.hid h7
                clear h7
                go_wp2
                go_quiet (fail)
                go_wp2
                simp only [Exit.jump]
                go_ret3
                exact ⟨hg.out, ⟨⟨_, rfl⟩⟩⟩
              · have h8 : ((j : Int) + 1 == 10) = false := beq_eq_false_iff_ne.mpr (by omega)
                go_wp2
                go_quiet (fail)
                go_wp2
                simp only [Exit.jump]
                go_ret3
                exact ⟨hg.out, ⟨⟨_, rfl⟩⟩⟩

/-! ### headgatelaw01_awake: function 14 -/
def headgatelaw01_awake.f  : Option (Bool) := (varint_Take.f (⟨#[128, 0]⟩ : ByteArray)).bind fun bt107 => ((varint_Take.f (⟨#[1, 120]⟩ : ByteArray)).bind fun bt110 => ((varint_Put.f 0).bind fun t113 => (if t113.toList = ([0] : List UInt8) then ((varint_Put.f (-1)).bind fun t114 => (if t114.toList = ([1] : List UInt8) then ((varint_Put.f 1).bind fun t115 => (if t115.toList = ([2] : List UInt8) then ((varint_Put.f 64).bind fun t116 => (if t116.toList = ([128, 1] : List UInt8) then (if bt107.2.2 = 2 then (if bt110.1 = (-1) then (if bt110.2.1.toList = ([120] : List UInt8) then (some (bt110.2.2 == 0)) else (some false)) else (some false)) else (some false)) else (some false))) else (some false))) else (some false))) else (some false))))
set_option maxHeartbeats 8000000 in
set_option maxRecDepth 100000 in
theorem headgatelaw01_awake.calls  (r : Bool) (w : World) (h : headgatelaw01_awake.f  = some r) :
    Calls Try.prog 14 #[] w fun e w' => e = .returned (.bool r) ∧ Below w.heap.size w w' := by
  have HB := Aside0.mk (Below.refl w.heap.size w)
  have H : ((varint_Take.f (⟨#[128, 0]⟩ : ByteArray)).bind fun bt107 => ((varint_Take.f (⟨#[1, 120]⟩ : ByteArray)).bind fun bt110 => ((varint_Put.f 0).bind fun t113 => (if t113.toList = ([0] : List UInt8) then ((varint_Put.f (-1)).bind fun t114 => (if t114.toList = ([1] : List UInt8) then ((varint_Put.f 1).bind fun t115 => (if t115.toList = ([2] : List UInt8) then ((varint_Put.f 64).bind fun t116 => (if t116.toList = ([128, 1] : List UInt8) then (if bt107.2.2 = 2 then (if bt110.1 = (-1) then (if bt110.2.1.toList = ([120] : List UInt8) then (some (bt110.2.2 == 0)) else (some false)) else (some false)) else (some false)) else (some false))) else (some false))) else (some false))) else (some false))))) = some r := h
  clear h
  replace H := Option.bind_eq_some_iff.mp H
  obtain ⟨⟨t107, t108, t109⟩, A10, H⟩ := H
  replace H : ((varint_Take.f (⟨#[1, 120]⟩ : ByteArray)).bind fun bt110 => ((varint_Put.f 0).bind fun t113 => (if t113.toList = ([0] : List UInt8) then ((varint_Put.f (-1)).bind fun t114 => (if t114.toList = ([1] : List UInt8) then ((varint_Put.f 1).bind fun t115 => (if t115.toList = ([2] : List UInt8) then ((varint_Put.f 64).bind fun t116 => (if t116.toList = ([128, 1] : List UInt8) then (if t109 = 2 then (if bt110.1 = (-1) then (if bt110.2.1.toList = ([120] : List UInt8) then (some (bt110.2.2 == 0)) else (some false)) else (some false)) else (some false)) else (some false))) else (some false))) else (some false))) else (some false)))) = some r := H
  have A1 := Aside0.mk A10
  clear A10
  replace H := Option.bind_eq_some_iff.mp H
  obtain ⟨⟨t110, t111, t112⟩, A20, H⟩ := H
  replace H : ((varint_Put.f 0).bind fun t113 => (if t113.toList = ([0] : List UInt8) then ((varint_Put.f (-1)).bind fun t114 => (if t114.toList = ([1] : List UInt8) then ((varint_Put.f 1).bind fun t115 => (if t115.toList = ([2] : List UInt8) then ((varint_Put.f 64).bind fun t116 => (if t116.toList = ([128, 1] : List UInt8) then (if t109 = 2 then (if t110 = (-1) then (if t111.toList = ([120] : List UInt8) then (some (t112 == 0)) else (some false)) else (some false)) else (some false)) else (some false))) else (some false))) else (some false))) else (some false))) = some r := H
  have A2 := Aside0.mk A20
  clear A20
  replace H := Option.bind_eq_some_iff.mp H
  obtain ⟨t113, A30, H⟩ := H
  replace H : (if t113.toList = ([0] : List UInt8) then ((varint_Put.f (-1)).bind fun t114 => (if t114.toList = ([1] : List UInt8) then ((varint_Put.f 1).bind fun t115 => (if t115.toList = ([2] : List UInt8) then ((varint_Put.f 64).bind fun t116 => (if t116.toList = ([128, 1] : List UInt8) then (if t109 = 2 then (if t110 = (-1) then (if t111.toList = ([120] : List UInt8) then (some (t112 == 0)) else (some false)) else (some false)) else (some false)) else (some false))) else (some false))) else (some false))) else (some false)) = some r := H
  have A3 := Aside0.mk A30
  clear A30
  by_cases c4 : t113.toList = ([0] : List UInt8)
  · rw [if_pos c4] at H
    have c4b0 : (t113.toList == ([0] : List UInt8)) = true := beq_iff_eq.mpr c4
    have c4b1 : (t113.toList != ([0] : List UInt8)) = false := bne_eq_false_iff_eq.mpr c4
    clear c4
    replace H := Option.bind_eq_some_iff.mp H
    obtain ⟨t114, A50, H⟩ := H
    replace H : (if t114.toList = ([1] : List UInt8) then ((varint_Put.f 1).bind fun t115 => (if t115.toList = ([2] : List UInt8) then ((varint_Put.f 64).bind fun t116 => (if t116.toList = ([128, 1] : List UInt8) then (if t109 = 2 then (if t110 = (-1) then (if t111.toList = ([120] : List UInt8) then (some (t112 == 0)) else (some false)) else (some false)) else (some false)) else (some false))) else (some false))) else (some false)) = some r := H
    have A5 := Aside0.mk A50
    clear A50
    by_cases c6 : t114.toList = ([1] : List UInt8)
    · rw [if_pos c6] at H
      have c6b0 : (t114.toList == ([1] : List UInt8)) = true := beq_iff_eq.mpr c6
      have c6b1 : (t114.toList != ([1] : List UInt8)) = false := bne_eq_false_iff_eq.mpr c6
      clear c6
      replace H := Option.bind_eq_some_iff.mp H
      obtain ⟨t115, A70, H⟩ := H
      replace H : (if t115.toList = ([2] : List UInt8) then ((varint_Put.f 64).bind fun t116 => (if t116.toList = ([128, 1] : List UInt8) then (if t109 = 2 then (if t110 = (-1) then (if t111.toList = ([120] : List UInt8) then (some (t112 == 0)) else (some false)) else (some false)) else (some false)) else (some false))) else (some false)) = some r := H
      have A7 := Aside0.mk A70
      clear A70
      by_cases c8 : t115.toList = ([2] : List UInt8)
      · rw [if_pos c8] at H
        have c8b0 : (t115.toList == ([2] : List UInt8)) = true := beq_iff_eq.mpr c8
        have c8b1 : (t115.toList != ([2] : List UInt8)) = false := bne_eq_false_iff_eq.mpr c8
        clear c8
        replace H := Option.bind_eq_some_iff.mp H
        obtain ⟨t116, A90, H⟩ := H
        replace H : (if t116.toList = ([128, 1] : List UInt8) then (if t109 = 2 then (if t110 = (-1) then (if t111.toList = ([120] : List UInt8) then (some (t112 == 0)) else (some false)) else (some false)) else (some false)) else (some false)) = some r := H
        have A9 := Aside0.mk A90
        clear A90
        by_cases c10 : t116.toList = ([128, 1] : List UInt8)
        · rw [if_pos c10] at H
          have c10b0 : (t116.toList == ([128, 1] : List UInt8)) = true := beq_iff_eq.mpr c10
          have c10b1 : (t116.toList != ([128, 1] : List UInt8)) = false := bne_eq_false_iff_eq.mpr c10
          clear c10
          by_cases c11 : t109 = 2
          · rw [if_pos c11] at H
            have c11b0 : (t109 == 2) = true := beq_iff_eq.mpr c11
            have c11b1 : (t109 != 2) = false := bne_eq_false_iff_eq.mpr c11
            clear c11
            by_cases c12 : t110 = (-1)
            · rw [if_pos c12] at H
              have c12b0 : (t110 == (-1)) = true := beq_iff_eq.mpr c12
              have c12b1 : (t110 != (-1)) = false := bne_eq_false_iff_eq.mpr c12
              clear c12
              by_cases c13 : t111.toList = ([120] : List UInt8)
              · rw [if_pos c13] at H
                have c13b0 : (t111.toList == ([120] : List UInt8)) = true := beq_iff_eq.mpr c13
                have c13b1 : (t111.toList != ([120] : List UInt8)) = false := bne_eq_false_iff_eq.mpr c13
                clear c13
                obtain rfl := Option.some.inj H
                go_enter Try.func14, Try.ntmps14
                go_wp2_with (first | ((with_reducible refine gate_callee (f := 15) rfl ?_); refine goesL_ (some 8) rfl rfl Try.func15 (by kernel_rfl) rfl #[.string (⟨#[128, 0]⟩ : ByteArray)] rfl (by (try simp only [List.map_toArray, List.map_cons, List.map_nil]); first | done | rfl | (simp only [List.length_drop, List.length_take]; rfl)) ?_; (with_reducible refine (varint_Take.calls (⟨#[128, 0]⟩ : ByteArray) t107 t108 t109 _ A1.out).mono ?_); rintro e w' ⟨rfl, ⟨nd, rfl⟩⟩; refine ⟨_, rfl, ?_⟩) | ((with_reducible refine gate_callee (f := 15) rfl ?_); refine goesL_ (some 13) rfl rfl Try.func15 (by kernel_rfl) rfl #[.string (⟨#[1, 120]⟩ : ByteArray)] rfl (by (try simp only [List.map_toArray, List.map_cons, List.map_nil]); first | done | rfl | (simp only [List.length_drop, List.length_take]; rfl)) ?_; (with_reducible refine (varint_Take.calls (⟨#[1, 120]⟩ : ByteArray) t110 t111 t112 _ A2.out).mono ?_); rintro e w' ⟨rfl, ⟨nd, rfl⟩⟩; refine ⟨_, rfl, ?_⟩) | ((with_reducible refine gate_callee (f := 12) rfl ?_); refine goesL_ (some 17) rfl rfl Try.func12 (by kernel_rfl) rfl #[.int .i64 0] rfl (by (try simp only [List.map_toArray, List.map_cons, List.map_nil]); first | done | rfl | (simp only [List.length_drop, List.length_take]; rfl)) ?_; (with_reducible refine (varint_Put.calls 0 t113 _ A3.out).mono ?_); rintro e w14 ⟨rfl, hb⟩; refine ⟨_, rfl, ?_⟩; have n0_ := Aside0.mk (below_step (by repeat (first | (with_reducible first | exact HB.out | apply below_alloc | apply pw_below_drewN | apply below_drew1) | exact HB.out)) hb); clear HB; have HB := n0_; clear n0_; (try clear hb); (try clear hb2); (try clear hk); (try clear hi)) | (go_at_call 12; (with_reducible refine (varint_Put.calls (-1) t114 _ A5.out).mono ?_); rintro e w15 ⟨rfl, hb⟩; have n0_ := Aside0.mk (below_step (by repeat (first | (with_reducible first | exact HB.out | apply below_alloc | apply pw_below_drewN | apply below_drew1) | exact HB.out)) hb); clear HB; have HB := n0_; clear n0_; (try clear hb); (try clear hb2); (try clear hk); (try clear hi)) | (go_at_call 12; (with_reducible refine (varint_Put.calls 1 t115 _ A7.out).mono ?_); rintro e w16 ⟨rfl, hb⟩; have n0_ := Aside0.mk (below_step (by repeat (first | (with_reducible first | exact HB.out | apply below_alloc | apply pw_below_drewN | apply below_drew1) | exact HB.out)) hb); clear HB; have HB := n0_; clear n0_; (try clear hb); (try clear hb2); (try clear hk); (try clear hi)) | (go_at_call 12; (with_reducible refine (varint_Put.calls 64 t116 _ A9.out).mono ?_); rintro e w17 ⟨rfl, hb⟩; have n0_ := Aside0.mk (below_step (by repeat (first | (with_reducible first | exact HB.out | apply below_alloc | apply pw_below_drewN | apply below_drew1) | exact HB.out)) hb); clear HB; have HB := n0_; clear n0_; (try clear hb); (try clear hb2); (try clear hk); (try clear hi)))
                go_ret
                exact ⟨by first | rfl | (simp [errW_none, errW_some] <;> rfl) | (simp [*, errW_none, errW_some] <;> rfl), by repeat (first | (with_reducible first | exact HB.out | apply below_alloc | apply pw_below_drewN | apply below_drew1) | exact HB.out)⟩
              · rw [if_neg c13] at H
                have c13b0 : (t111.toList == ([120] : List UInt8)) = false := beq_eq_false_iff_ne.mpr c13
                have c13b1 : (t111.toList != ([120] : List UInt8)) = true := bne_iff_ne.mpr c13
                obtain rfl := Option.some.inj H
                go_enter Try.func14, Try.ntmps14
                go_wp2_with (first | ((with_reducible refine gate_callee (f := 15) rfl ?_); refine goesL_ (some 8) rfl rfl Try.func15 (by kernel_rfl) rfl #[.string (⟨#[128, 0]⟩ : ByteArray)] rfl (by (try simp only [List.map_toArray, List.map_cons, List.map_nil]); first | done | rfl | (simp only [List.length_drop, List.length_take]; rfl)) ?_; (with_reducible refine (varint_Take.calls (⟨#[128, 0]⟩ : ByteArray) t107 t108 t109 _ A1.out).mono ?_); rintro e w' ⟨rfl, ⟨nd, rfl⟩⟩; refine ⟨_, rfl, ?_⟩) | ((with_reducible refine gate_callee (f := 15) rfl ?_); refine goesL_ (some 13) rfl rfl Try.func15 (by kernel_rfl) rfl #[.string (⟨#[1, 120]⟩ : ByteArray)] rfl (by (try simp only [List.map_toArray, List.map_cons, List.map_nil]); first | done | rfl | (simp only [List.length_drop, List.length_take]; rfl)) ?_; (with_reducible refine (varint_Take.calls (⟨#[1, 120]⟩ : ByteArray) t110 t111 t112 _ A2.out).mono ?_); rintro e w' ⟨rfl, ⟨nd, rfl⟩⟩; refine ⟨_, rfl, ?_⟩) | ((with_reducible refine gate_callee (f := 12) rfl ?_); refine goesL_ (some 17) rfl rfl Try.func12 (by kernel_rfl) rfl #[.int .i64 0] rfl (by (try simp only [List.map_toArray, List.map_cons, List.map_nil]); first | done | rfl | (simp only [List.length_drop, List.length_take]; rfl)) ?_; (with_reducible refine (varint_Put.calls 0 t113 _ A3.out).mono ?_); rintro e w18 ⟨rfl, hb⟩; refine ⟨_, rfl, ?_⟩; have n0_ := Aside0.mk (below_step (by repeat (first | (with_reducible first | exact HB.out | apply below_alloc | apply pw_below_drewN | apply below_drew1) | exact HB.out)) hb); clear HB; have HB := n0_; clear n0_; (try clear hb); (try clear hb2); (try clear hk); (try clear hi)) | (go_at_call 12; (with_reducible refine (varint_Put.calls (-1) t114 _ A5.out).mono ?_); rintro e w19 ⟨rfl, hb⟩; have n0_ := Aside0.mk (below_step (by repeat (first | (with_reducible first | exact HB.out | apply below_alloc | apply pw_below_drewN | apply below_drew1) | exact HB.out)) hb); clear HB; have HB := n0_; clear n0_; (try clear hb); (try clear hb2); (try clear hk); (try clear hi)) | (go_at_call 12; (with_reducible refine (varint_Put.calls 1 t115 _ A7.out).mono ?_); rintro e w20 ⟨rfl, hb⟩; have n0_ := Aside0.mk (below_step (by repeat (first | (with_reducible first | exact HB.out | apply below_alloc | apply pw_below_drewN | apply below_drew1) | exact HB.out)) hb); clear HB; have HB := n0_; clear n0_; (try clear hb); (try clear hb2); (try clear hk); (try clear hi)) | (go_at_call 12; (with_reducible refine (varint_Put.calls 64 t116 _ A9.out).mono ?_); rintro e w21 ⟨rfl, hb⟩; have n0_ := Aside0.mk (below_step (by repeat (first | (with_reducible first | exact HB.out | apply below_alloc | apply pw_below_drewN | apply below_drew1) | exact HB.out)) hb); clear HB; have HB := n0_; clear n0_; (try clear hb); (try clear hb2); (try clear hk); (try clear hi)))
                go_ret
                exact ⟨by first | rfl | (simp [errW_none, errW_some] <;> rfl) | (simp [*, errW_none, errW_some] <;> rfl), by repeat (first | (with_reducible first | exact HB.out | apply below_alloc | apply pw_below_drewN | apply below_drew1) | exact HB.out)⟩
            · rw [if_neg c12] at H
              have c12b0 : (t110 == (-1)) = false := beq_eq_false_iff_ne.mpr c12
              have c12b1 : (t110 != (-1)) = true := bne_iff_ne.mpr c12
              obtain rfl := Option.some.inj H
              go_enter Try.func14, Try.ntmps14
              go_wp2_with (first | ((with_reducible refine gate_callee (f := 15) rfl ?_); refine goesL_ (some 8) rfl rfl Try.func15 (by kernel_rfl) rfl #[.string (⟨#[128, 0]⟩ : ByteArray)] rfl (by (try simp only [List.map_toArray, List.map_cons, List.map_nil]); first | done | rfl | (simp only [List.length_drop, List.length_take]; rfl)) ?_; (with_reducible refine (varint_Take.calls (⟨#[128, 0]⟩ : ByteArray) t107 t108 t109 _ A1.out).mono ?_); rintro e w' ⟨rfl, ⟨nd, rfl⟩⟩; refine ⟨_, rfl, ?_⟩) | ((with_reducible refine gate_callee (f := 15) rfl ?_); refine goesL_ (some 13) rfl rfl Try.func15 (by kernel_rfl) rfl #[.string (⟨#[1, 120]⟩ : ByteArray)] rfl (by (try simp only [List.map_toArray, List.map_cons, List.map_nil]); first | done | rfl | (simp only [List.length_drop, List.length_take]; rfl)) ?_; (with_reducible refine (varint_Take.calls (⟨#[1, 120]⟩ : ByteArray) t110 t111 t112 _ A2.out).mono ?_); rintro e w' ⟨rfl, ⟨nd, rfl⟩⟩; refine ⟨_, rfl, ?_⟩) | ((with_reducible refine gate_callee (f := 12) rfl ?_); refine goesL_ (some 17) rfl rfl Try.func12 (by kernel_rfl) rfl #[.int .i64 0] rfl (by (try simp only [List.map_toArray, List.map_cons, List.map_nil]); first | done | rfl | (simp only [List.length_drop, List.length_take]; rfl)) ?_; (with_reducible refine (varint_Put.calls 0 t113 _ A3.out).mono ?_); rintro e w22 ⟨rfl, hb⟩; refine ⟨_, rfl, ?_⟩; have n0_ := Aside0.mk (below_step (by repeat (first | (with_reducible first | exact HB.out | apply below_alloc | apply pw_below_drewN | apply below_drew1) | exact HB.out)) hb); clear HB; have HB := n0_; clear n0_; (try clear hb); (try clear hb2); (try clear hk); (try clear hi)) | (go_at_call 12; (with_reducible refine (varint_Put.calls (-1) t114 _ A5.out).mono ?_); rintro e w23 ⟨rfl, hb⟩; have n0_ := Aside0.mk (below_step (by repeat (first | (with_reducible first | exact HB.out | apply below_alloc | apply pw_below_drewN | apply below_drew1) | exact HB.out)) hb); clear HB; have HB := n0_; clear n0_; (try clear hb); (try clear hb2); (try clear hk); (try clear hi)) | (go_at_call 12; (with_reducible refine (varint_Put.calls 1 t115 _ A7.out).mono ?_); rintro e w24 ⟨rfl, hb⟩; have n0_ := Aside0.mk (below_step (by repeat (first | (with_reducible first | exact HB.out | apply below_alloc | apply pw_below_drewN | apply below_drew1) | exact HB.out)) hb); clear HB; have HB := n0_; clear n0_; (try clear hb); (try clear hb2); (try clear hk); (try clear hi)) | (go_at_call 12; (with_reducible refine (varint_Put.calls 64 t116 _ A9.out).mono ?_); rintro e w25 ⟨rfl, hb⟩; have n0_ := Aside0.mk (below_step (by repeat (first | (with_reducible first | exact HB.out | apply below_alloc | apply pw_below_drewN | apply below_drew1) | exact HB.out)) hb); clear HB; have HB := n0_; clear n0_; (try clear hb); (try clear hb2); (try clear hk); (try clear hi)))
              go_ret
              exact ⟨by first | rfl | (simp [errW_none, errW_some] <;> rfl) | (simp [*, errW_none, errW_some] <;> rfl), by repeat (first | (with_reducible first | exact HB.out | apply below_alloc | apply pw_below_drewN | apply below_drew1) | exact HB.out)⟩
          · rw [if_neg c11] at H
            have c11b0 : (t109 == 2) = false := beq_eq_false_iff_ne.mpr c11
            have c11b1 : (t109 != 2) = true := bne_iff_ne.mpr c11
            obtain rfl := Option.some.inj H
            go_enter Try.func14, Try.ntmps14
            go_wp2_with (first | ((with_reducible refine gate_callee (f := 15) rfl ?_); refine goesL_ (some 8) rfl rfl Try.func15 (by kernel_rfl) rfl #[.string (⟨#[128, 0]⟩ : ByteArray)] rfl (by (try simp only [List.map_toArray, List.map_cons, List.map_nil]); first | done | rfl | (simp only [List.length_drop, List.length_take]; rfl)) ?_; (with_reducible refine (varint_Take.calls (⟨#[128, 0]⟩ : ByteArray) t107 t108 t109 _ A1.out).mono ?_); rintro e w' ⟨rfl, ⟨nd, rfl⟩⟩; refine ⟨_, rfl, ?_⟩) | ((with_reducible refine gate_callee (f := 15) rfl ?_); refine goesL_ (some 13) rfl rfl Try.func15 (by kernel_rfl) rfl #[.string (⟨#[1, 120]⟩ : ByteArray)] rfl (by (try simp only [List.map_toArray, List.map_cons, List.map_nil]); first | done | rfl | (simp only [List.length_drop, List.length_take]; rfl)) ?_; (with_reducible refine (varint_Take.calls (⟨#[1, 120]⟩ : ByteArray) t110 t111 t112 _ A2.out).mono ?_); rintro e w' ⟨rfl, ⟨nd, rfl⟩⟩; refine ⟨_, rfl, ?_⟩) | ((with_reducible refine gate_callee (f := 12) rfl ?_); refine goesL_ (some 17) rfl rfl Try.func12 (by kernel_rfl) rfl #[.int .i64 0] rfl (by (try simp only [List.map_toArray, List.map_cons, List.map_nil]); first | done | rfl | (simp only [List.length_drop, List.length_take]; rfl)) ?_; (with_reducible refine (varint_Put.calls 0 t113 _ A3.out).mono ?_); rintro e w26 ⟨rfl, hb⟩; refine ⟨_, rfl, ?_⟩; have n0_ := Aside0.mk (below_step (by repeat (first | (with_reducible first | exact HB.out | apply below_alloc | apply pw_below_drewN | apply below_drew1) | exact HB.out)) hb); clear HB; have HB := n0_; clear n0_; (try clear hb); (try clear hb2); (try clear hk); (try clear hi)) | (go_at_call 12; (with_reducible refine (varint_Put.calls (-1) t114 _ A5.out).mono ?_); rintro e w27 ⟨rfl, hb⟩; have n0_ := Aside0.mk (below_step (by repeat (first | (with_reducible first | exact HB.out | apply below_alloc | apply pw_below_drewN | apply below_drew1) | exact HB.out)) hb); clear HB; have HB := n0_; clear n0_; (try clear hb); (try clear hb2); (try clear hk); (try clear hi)) | (go_at_call 12; (with_reducible refine (varint_Put.calls 1 t115 _ A7.out).mono ?_); rintro e w28 ⟨rfl, hb⟩; have n0_ := Aside0.mk (below_step (by repeat (first | (with_reducible first | exact HB.out | apply below_alloc | apply pw_below_drewN | apply below_drew1) | exact HB.out)) hb); clear HB; have HB := n0_; clear n0_; (try clear hb); (try clear hb2); (try clear hk); (try clear hi)) | (go_at_call 12; (with_reducible refine (varint_Put.calls 64 t116 _ A9.out).mono ?_); rintro e w29 ⟨rfl, hb⟩; have n0_ := Aside0.mk (below_step (by repeat (first | (with_reducible first | exact HB.out | apply below_alloc | apply pw_below_drewN | apply below_drew1) | exact HB.out)) hb); clear HB; have HB := n0_; clear n0_; (try clear hb); (try clear hb2); (try clear hk); (try clear hi)))
            go_ret
            exact ⟨by first | rfl | (simp [errW_none, errW_some] <;> rfl) | (simp [*, errW_none, errW_some] <;> rfl), by repeat (first | (with_reducible first | exact HB.out | apply below_alloc | apply pw_below_drewN | apply below_drew1) | exact HB.out)⟩
        · rw [if_neg c10] at H
          have c10b0 : (t116.toList == ([128, 1] : List UInt8)) = false := beq_eq_false_iff_ne.mpr c10
          have c10b1 : (t116.toList != ([128, 1] : List UInt8)) = true := bne_iff_ne.mpr c10
          obtain rfl := Option.some.inj H
          go_enter Try.func14, Try.ntmps14
          go_wp2_with (first | ((with_reducible refine gate_callee (f := 15) rfl ?_); refine goesL_ (some 8) rfl rfl Try.func15 (by kernel_rfl) rfl #[.string (⟨#[128, 0]⟩ : ByteArray)] rfl (by (try simp only [List.map_toArray, List.map_cons, List.map_nil]); first | done | rfl | (simp only [List.length_drop, List.length_take]; rfl)) ?_; (with_reducible refine (varint_Take.calls (⟨#[128, 0]⟩ : ByteArray) t107 t108 t109 _ A1.out).mono ?_); rintro e w' ⟨rfl, ⟨nd, rfl⟩⟩; refine ⟨_, rfl, ?_⟩) | ((with_reducible refine gate_callee (f := 15) rfl ?_); refine goesL_ (some 13) rfl rfl Try.func15 (by kernel_rfl) rfl #[.string (⟨#[1, 120]⟩ : ByteArray)] rfl (by (try simp only [List.map_toArray, List.map_cons, List.map_nil]); first | done | rfl | (simp only [List.length_drop, List.length_take]; rfl)) ?_; (with_reducible refine (varint_Take.calls (⟨#[1, 120]⟩ : ByteArray) t110 t111 t112 _ A2.out).mono ?_); rintro e w' ⟨rfl, ⟨nd, rfl⟩⟩; refine ⟨_, rfl, ?_⟩) | ((with_reducible refine gate_callee (f := 12) rfl ?_); refine goesL_ (some 17) rfl rfl Try.func12 (by kernel_rfl) rfl #[.int .i64 0] rfl (by (try simp only [List.map_toArray, List.map_cons, List.map_nil]); first | done | rfl | (simp only [List.length_drop, List.length_take]; rfl)) ?_; (with_reducible refine (varint_Put.calls 0 t113 _ A3.out).mono ?_); rintro e w30 ⟨rfl, hb⟩; refine ⟨_, rfl, ?_⟩; have n0_ := Aside0.mk (below_step (by repeat (first | (with_reducible first | exact HB.out | apply below_alloc | apply pw_below_drewN | apply below_drew1) | exact HB.out)) hb); clear HB; have HB := n0_; clear n0_; (try clear hb); (try clear hb2); (try clear hk); (try clear hi)) | (go_at_call 12; (with_reducible refine (varint_Put.calls (-1) t114 _ A5.out).mono ?_); rintro e w31 ⟨rfl, hb⟩; have n0_ := Aside0.mk (below_step (by repeat (first | (with_reducible first | exact HB.out | apply below_alloc | apply pw_below_drewN | apply below_drew1) | exact HB.out)) hb); clear HB; have HB := n0_; clear n0_; (try clear hb); (try clear hb2); (try clear hk); (try clear hi)) | (go_at_call 12; (with_reducible refine (varint_Put.calls 1 t115 _ A7.out).mono ?_); rintro e w32 ⟨rfl, hb⟩; have n0_ := Aside0.mk (below_step (by repeat (first | (with_reducible first | exact HB.out | apply below_alloc | apply pw_below_drewN | apply below_drew1) | exact HB.out)) hb); clear HB; have HB := n0_; clear n0_; (try clear hb); (try clear hb2); (try clear hk); (try clear hi)) | (go_at_call 12; (with_reducible refine (varint_Put.calls 64 t116 _ A9.out).mono ?_); rintro e w33 ⟨rfl, hb⟩; have n0_ := Aside0.mk (below_step (by repeat (first | (with_reducible first | exact HB.out | apply below_alloc | apply pw_below_drewN | apply below_drew1) | exact HB.out)) hb); clear HB; have HB := n0_; clear n0_; (try clear hb); (try clear hb2); (try clear hk); (try clear hi)))
          go_ret
          exact ⟨by first | rfl | (simp [errW_none, errW_some] <;> rfl) | (simp [*, errW_none, errW_some] <;> rfl), by repeat (first | (with_reducible first | exact HB.out | apply below_alloc | apply pw_below_drewN | apply below_drew1) | exact HB.out)⟩
      · rw [if_neg c8] at H
        have c8b0 : (t115.toList == ([2] : List UInt8)) = false := beq_eq_false_iff_ne.mpr c8
        have c8b1 : (t115.toList != ([2] : List UInt8)) = true := bne_iff_ne.mpr c8
        obtain rfl := Option.some.inj H
        go_enter Try.func14, Try.ntmps14
        go_wp2_with (first | ((with_reducible refine gate_callee (f := 15) rfl ?_); refine goesL_ (some 8) rfl rfl Try.func15 (by kernel_rfl) rfl #[.string (⟨#[128, 0]⟩ : ByteArray)] rfl (by (try simp only [List.map_toArray, List.map_cons, List.map_nil]); first | done | rfl | (simp only [List.length_drop, List.length_take]; rfl)) ?_; (with_reducible refine (varint_Take.calls (⟨#[128, 0]⟩ : ByteArray) t107 t108 t109 _ A1.out).mono ?_); rintro e w' ⟨rfl, ⟨nd, rfl⟩⟩; refine ⟨_, rfl, ?_⟩) | ((with_reducible refine gate_callee (f := 15) rfl ?_); refine goesL_ (some 13) rfl rfl Try.func15 (by kernel_rfl) rfl #[.string (⟨#[1, 120]⟩ : ByteArray)] rfl (by (try simp only [List.map_toArray, List.map_cons, List.map_nil]); first | done | rfl | (simp only [List.length_drop, List.length_take]; rfl)) ?_; (with_reducible refine (varint_Take.calls (⟨#[1, 120]⟩ : ByteArray) t110 t111 t112 _ A2.out).mono ?_); rintro e w' ⟨rfl, ⟨nd, rfl⟩⟩; refine ⟨_, rfl, ?_⟩) | ((with_reducible refine gate_callee (f := 12) rfl ?_); refine goesL_ (some 17) rfl rfl Try.func12 (by kernel_rfl) rfl #[.int .i64 0] rfl (by (try simp only [List.map_toArray, List.map_cons, List.map_nil]); first | done | rfl | (simp only [List.length_drop, List.length_take]; rfl)) ?_; (with_reducible refine (varint_Put.calls 0 t113 _ A3.out).mono ?_); rintro e w34 ⟨rfl, hb⟩; refine ⟨_, rfl, ?_⟩; have n0_ := Aside0.mk (below_step (by repeat (first | (with_reducible first | exact HB.out | apply below_alloc | apply pw_below_drewN | apply below_drew1) | exact HB.out)) hb); clear HB; have HB := n0_; clear n0_; (try clear hb); (try clear hb2); (try clear hk); (try clear hi)) | (go_at_call 12; (with_reducible refine (varint_Put.calls (-1) t114 _ A5.out).mono ?_); rintro e w35 ⟨rfl, hb⟩; have n0_ := Aside0.mk (below_step (by repeat (first | (with_reducible first | exact HB.out | apply below_alloc | apply pw_below_drewN | apply below_drew1) | exact HB.out)) hb); clear HB; have HB := n0_; clear n0_; (try clear hb); (try clear hb2); (try clear hk); (try clear hi)) | (go_at_call 12; (with_reducible refine (varint_Put.calls 1 t115 _ A7.out).mono ?_); rintro e w36 ⟨rfl, hb⟩; have n0_ := Aside0.mk (below_step (by repeat (first | (with_reducible first | exact HB.out | apply below_alloc | apply pw_below_drewN | apply below_drew1) | exact HB.out)) hb); clear HB; have HB := n0_; clear n0_; (try clear hb); (try clear hb2); (try clear hk); (try clear hi)))
        go_ret
        exact ⟨by first | rfl | (simp [errW_none, errW_some] <;> rfl) | (simp [*, errW_none, errW_some] <;> rfl), by repeat (first | (with_reducible first | exact HB.out | apply below_alloc | apply pw_below_drewN | apply below_drew1) | exact HB.out)⟩
    · rw [if_neg c6] at H
      have c6b0 : (t114.toList == ([1] : List UInt8)) = false := beq_eq_false_iff_ne.mpr c6
      have c6b1 : (t114.toList != ([1] : List UInt8)) = true := bne_iff_ne.mpr c6
      obtain rfl := Option.some.inj H
      go_enter Try.func14, Try.ntmps14
      go_wp2_with (first | ((with_reducible refine gate_callee (f := 15) rfl ?_); refine goesL_ (some 8) rfl rfl Try.func15 (by kernel_rfl) rfl #[.string (⟨#[128, 0]⟩ : ByteArray)] rfl (by (try simp only [List.map_toArray, List.map_cons, List.map_nil]); first | done | rfl | (simp only [List.length_drop, List.length_take]; rfl)) ?_; (with_reducible refine (varint_Take.calls (⟨#[128, 0]⟩ : ByteArray) t107 t108 t109 _ A1.out).mono ?_); rintro e w' ⟨rfl, ⟨nd, rfl⟩⟩; refine ⟨_, rfl, ?_⟩) | ((with_reducible refine gate_callee (f := 15) rfl ?_); refine goesL_ (some 13) rfl rfl Try.func15 (by kernel_rfl) rfl #[.string (⟨#[1, 120]⟩ : ByteArray)] rfl (by (try simp only [List.map_toArray, List.map_cons, List.map_nil]); first | done | rfl | (simp only [List.length_drop, List.length_take]; rfl)) ?_; (with_reducible refine (varint_Take.calls (⟨#[1, 120]⟩ : ByteArray) t110 t111 t112 _ A2.out).mono ?_); rintro e w' ⟨rfl, ⟨nd, rfl⟩⟩; refine ⟨_, rfl, ?_⟩) | ((with_reducible refine gate_callee (f := 12) rfl ?_); refine goesL_ (some 17) rfl rfl Try.func12 (by kernel_rfl) rfl #[.int .i64 0] rfl (by (try simp only [List.map_toArray, List.map_cons, List.map_nil]); first | done | rfl | (simp only [List.length_drop, List.length_take]; rfl)) ?_; (with_reducible refine (varint_Put.calls 0 t113 _ A3.out).mono ?_); rintro e w37 ⟨rfl, hb⟩; refine ⟨_, rfl, ?_⟩; have n0_ := Aside0.mk (below_step (by repeat (first | (with_reducible first | exact HB.out | apply below_alloc | apply pw_below_drewN | apply below_drew1) | exact HB.out)) hb); clear HB; have HB := n0_; clear n0_; (try clear hb); (try clear hb2); (try clear hk); (try clear hi)) | (go_at_call 12; (with_reducible refine (varint_Put.calls (-1) t114 _ A5.out).mono ?_); rintro e w38 ⟨rfl, hb⟩; have n0_ := Aside0.mk (below_step (by repeat (first | (with_reducible first | exact HB.out | apply below_alloc | apply pw_below_drewN | apply below_drew1) | exact HB.out)) hb); clear HB; have HB := n0_; clear n0_; (try clear hb); (try clear hb2); (try clear hk); (try clear hi)))
      go_ret
      exact ⟨by first | rfl | (simp [errW_none, errW_some] <;> rfl) | (simp [*, errW_none, errW_some] <;> rfl), by repeat (first | (with_reducible first | exact HB.out | apply below_alloc | apply pw_below_drewN | apply below_drew1) | exact HB.out)⟩
  · rw [if_neg c4] at H
    have c4b0 : (t113.toList == ([0] : List UInt8)) = false := beq_eq_false_iff_ne.mpr c4
    have c4b1 : (t113.toList != ([0] : List UInt8)) = true := bne_iff_ne.mpr c4
    obtain rfl := Option.some.inj H
    go_enter Try.func14, Try.ntmps14
    go_wp2_with (first | ((with_reducible refine gate_callee (f := 15) rfl ?_); refine goesL_ (some 8) rfl rfl Try.func15 (by kernel_rfl) rfl #[.string (⟨#[128, 0]⟩ : ByteArray)] rfl (by (try simp only [List.map_toArray, List.map_cons, List.map_nil]); first | done | rfl | (simp only [List.length_drop, List.length_take]; rfl)) ?_; (with_reducible refine (varint_Take.calls (⟨#[128, 0]⟩ : ByteArray) t107 t108 t109 _ A1.out).mono ?_); rintro e w' ⟨rfl, ⟨nd, rfl⟩⟩; refine ⟨_, rfl, ?_⟩) | ((with_reducible refine gate_callee (f := 15) rfl ?_); refine goesL_ (some 13) rfl rfl Try.func15 (by kernel_rfl) rfl #[.string (⟨#[1, 120]⟩ : ByteArray)] rfl (by (try simp only [List.map_toArray, List.map_cons, List.map_nil]); first | done | rfl | (simp only [List.length_drop, List.length_take]; rfl)) ?_; (with_reducible refine (varint_Take.calls (⟨#[1, 120]⟩ : ByteArray) t110 t111 t112 _ A2.out).mono ?_); rintro e w' ⟨rfl, ⟨nd, rfl⟩⟩; refine ⟨_, rfl, ?_⟩) | ((with_reducible refine gate_callee (f := 12) rfl ?_); refine goesL_ (some 17) rfl rfl Try.func12 (by kernel_rfl) rfl #[.int .i64 0] rfl (by (try simp only [List.map_toArray, List.map_cons, List.map_nil]); first | done | rfl | (simp only [List.length_drop, List.length_take]; rfl)) ?_; (with_reducible refine (varint_Put.calls 0 t113 _ A3.out).mono ?_); rintro e w39 ⟨rfl, hb⟩; refine ⟨_, rfl, ?_⟩; have n0_ := Aside0.mk (below_step (by repeat (first | (with_reducible first | exact HB.out | apply below_alloc | apply pw_below_drewN | apply below_drew1) | exact HB.out)) hb); clear HB; have HB := n0_; clear n0_; (try clear hb); (try clear hb2); (try clear hk); (try clear hi)))
    go_ret
    exact ⟨by first | rfl | (simp [errW_none, errW_some] <;> rfl) | (simp [*, errW_none, errW_some] <;> rfl), by repeat (first | (with_reducible first | exact HB.out | apply below_alloc | apply pw_below_drewN | apply below_drew1) | exact HB.out)⟩

/-! ### headgatelaw01_VarintPuts: function 3 -/
def headgatelaw01_VarintPuts.f (k : Nat) (a0 : Int) : Option (Bool) := (varint_Put.f a0).bind fun t117 => ((headgateref01_Put.f k a0).bind fun t118 => (if t117.toList = t118.toList then ((headgatelaw01_awake.f).bind fun t119 => (some t119)) else (some false)))
theorem headgatelaw01_VarintPuts.mono : ∀ a0 k, LeO (headgatelaw01_VarintPuts.f k a0) (headgatelaw01_VarintPuts.f (k + 1) a0) := by
  intro a0 k
  unfold headgatelaw01_VarintPuts.f
  repeat' first
      | (with_reducible exact headgateref01_Put.mono _ _)
      | (with_reducible exact LeO.refl _)
      | (with_reducible exact LeO.none _)
      | (with_reducible refine LeO.ite ?_ ?_)
      | (with_reducible refine LeO.bind ?_ (fun _ => ?_))
      | exact headgateref01_Put.mono _ _
      | exact LeO.none _
      | refine LeO.ite ?_ ?_
      | refine LeO.bind ?_ (fun _ => ?_)
set_option maxHeartbeats 8000000 in
set_option maxRecDepth 100000 in
theorem headgatelaw01_VarintPuts.calls (k : Nat) (a0 : Int) (r : Bool) (w : World) (h : headgatelaw01_VarintPuts.f k a0 = some r) :
    Calls Try.prog 3 #[.int .i64 a0] w fun e w' => e = .returned (.bool r) ∧ Below w.heap.size w w' := by
  have HB := Aside0.mk (Below.refl w.heap.size w)
  have H : ((varint_Put.f a0).bind fun t117 => ((headgateref01_Put.f k a0).bind fun t118 => (if t117.toList = t118.toList then ((headgatelaw01_awake.f).bind fun t119 => (some t119)) else (some false)))) = some r := h
  clear h
  replace H := Option.bind_eq_some_iff.mp H
  obtain ⟨t117, A20, H⟩ := H
  replace H : ((headgateref01_Put.f k a0).bind fun t118 => (if t117.toList = t118.toList then ((headgatelaw01_awake.f).bind fun t119 => (some t119)) else (some false))) = some r := H
  have A2 := Aside0.mk A20
  clear A20
  replace H := Option.bind_eq_some_iff.mp H
  obtain ⟨t118, A30, H⟩ := H
  replace H : (if t117.toList = t118.toList then ((headgatelaw01_awake.f).bind fun t119 => (some t119)) else (some false)) = some r := H
  have A3 := Aside0.mk A30
  clear A30
  by_cases c4 : t117.toList = t118.toList
  · rw [if_pos c4] at H
    have c4b0 : (t117.toList == t118.toList) = true := beq_iff_eq.mpr c4
    have c4b1 : (t117.toList != t118.toList) = false := bne_eq_false_iff_eq.mpr c4
    clear c4
    replace H := Option.bind_eq_some_iff.mp H
    obtain ⟨t119, A50, H⟩ := H
    replace H : (some t119) = some r := H
    have A5 := Aside0.mk A50
    clear A50
    obtain rfl := Option.some.inj H
    go_enter Try.func3, Try.ntmps3
    go_wp2_with (first | ((with_reducible refine gate_callee (f := 12) rfl ?_); refine goesL_ (some 4) rfl rfl Try.func12 (by kernel_rfl) rfl #[.int .i64 a0] rfl (by (try simp only [List.map_toArray, List.map_cons, List.map_nil]); first | done | rfl | (simp only [List.length_drop, List.length_take]; rfl)) ?_; (with_reducible refine (varint_Put.calls a0 t117 _ A2.out).mono ?_); rintro e w6 ⟨rfl, hb⟩; refine ⟨_, rfl, ?_⟩; have n0_ := Aside0.mk (below_step (by repeat (first | (with_reducible first | exact HB.out | apply below_alloc | apply pw_below_drewN | apply below_drew1) | exact HB.out)) hb); clear HB; have HB := n0_; clear n0_; (try clear hb); (try clear hb2); (try clear hk); (try clear hi)) | ((with_reducible refine gate_callee (f := 13) rfl ?_); refine goesL_ (some 6) rfl rfl Try.func13 (by kernel_rfl) rfl #[.int .i64 a0] rfl (by (try simp only [List.map_toArray, List.map_cons, List.map_nil]); first | done | rfl | (simp only [List.length_drop, List.length_take]; rfl)) ?_; (with_reducible refine (headgateref01_Put.calls k a0 t118 _ A3.out).mono ?_); rintro e w7 ⟨rfl, hb⟩; refine ⟨_, rfl, ?_⟩; have n0_ := Aside0.mk (below_step (by repeat (first | (with_reducible first | exact HB.out | apply below_alloc | apply pw_below_drewN | apply below_drew1) | exact HB.out)) hb); clear HB; have HB := n0_; clear n0_; (try clear hb); (try clear hb2); (try clear hk); (try clear hi)) | (go_at_call 14; (with_reducible refine (headgatelaw01_awake.calls  t119 _ A5.out).mono ?_); rintro e w8 ⟨rfl, hb⟩; have n0_ := Aside0.mk (below_step (by repeat (first | (with_reducible first | exact HB.out | apply below_alloc | apply pw_below_drewN | apply below_drew1) | exact HB.out)) hb); clear HB; have HB := n0_; clear n0_; (try clear hb); (try clear hb2); (try clear hk); (try clear hi)))
    go_ret
    exact ⟨by first | rfl | (simp [errW_none, errW_some] <;> rfl) | (simp [*, errW_none, errW_some] <;> rfl), by repeat (first | (with_reducible first | exact HB.out | apply below_alloc | apply pw_below_drewN | apply below_drew1) | exact HB.out)⟩
  · rw [if_neg c4] at H
    have c4b0 : (t117.toList == t118.toList) = false := beq_eq_false_iff_ne.mpr c4
    have c4b1 : (t117.toList != t118.toList) = true := bne_iff_ne.mpr c4
    obtain rfl := Option.some.inj H
    go_enter Try.func3, Try.ntmps3
    go_wp2_with (first | ((with_reducible refine gate_callee (f := 12) rfl ?_); refine goesL_ (some 4) rfl rfl Try.func12 (by kernel_rfl) rfl #[.int .i64 a0] rfl (by (try simp only [List.map_toArray, List.map_cons, List.map_nil]); first | done | rfl | (simp only [List.length_drop, List.length_take]; rfl)) ?_; (with_reducible refine (varint_Put.calls a0 t117 _ A2.out).mono ?_); rintro e w9 ⟨rfl, hb⟩; refine ⟨_, rfl, ?_⟩; have n0_ := Aside0.mk (below_step (by repeat (first | (with_reducible first | exact HB.out | apply below_alloc | apply pw_below_drewN | apply below_drew1) | exact HB.out)) hb); clear HB; have HB := n0_; clear n0_; (try clear hb); (try clear hb2); (try clear hk); (try clear hi)) | ((with_reducible refine gate_callee (f := 13) rfl ?_); refine goesL_ (some 6) rfl rfl Try.func13 (by kernel_rfl) rfl #[.int .i64 a0] rfl (by (try simp only [List.map_toArray, List.map_cons, List.map_nil]); first | done | rfl | (simp only [List.length_drop, List.length_take]; rfl)) ?_; (with_reducible refine (headgateref01_Put.calls k a0 t118 _ A3.out).mono ?_); rintro e w10 ⟨rfl, hb⟩; refine ⟨_, rfl, ?_⟩; have n0_ := Aside0.mk (below_step (by repeat (first | (with_reducible first | exact HB.out | apply below_alloc | apply pw_below_drewN | apply below_drew1) | exact HB.out)) hb); clear HB; have HB := n0_; clear n0_; (try clear hb); (try clear hb2); (try clear hk); (try clear hi)))
    go_ret
    exact ⟨by first | rfl | (simp [errW_none, errW_some] <;> rfl) | (simp [*, errW_none, errW_some] <;> rfl), by repeat (first | (with_reducible first | exact HB.out | apply below_alloc | apply pw_below_drewN | apply below_drew1) | exact HB.out)⟩

/-- THE ONE PURE STATEMENT of headgatelaw01_VarintPuts: yours. -/
def headgatelaw01_VarintPuts.Pure : Prop := ∀ (a0 : Int), (Lit.int .i64 a0).wf = true → ∃ k, headgatelaw01_VarintPuts.f k a0 = some true
theorem headgatelaw01_VarintPuts.walk (P : headgatelaw01_VarintPuts.Pure) (a0 : Int) (w : World) (w0 : (Lit.int .i64 a0).wf = true) :
    Calls Try.prog 3 #[.int .i64 a0] w fun e w' => e = .returned (.bool true) ∧ Below w.heap.size w w' := by
  obtain ⟨k, h⟩ := P a0 w0
  refine (headgatelaw01_VarintPuts.calls k a0 true w h).mono ?_
  rintro e w' ⟨rfl, hd⟩
  exact ⟨rfl, hd⟩

end Go.Proofs.Ytdbgfkdjdddfmaa.P
