-- Written by wip/mk.py of this repo: the kit's print program, with contracts of our own among its functions.
import Derived.Test.YtpffggpedogifaaPx0
namespace Go.Proofs.Ytpffggpedogifaa.P
open Go.RowKit Go.Proofs.YtpffggpedogifaaW.PrintWords Go.Proofs.YtpffggpedogifaaW.PrintLast Go.Proofs.YtpffggpedogifaaW.PrintMore
attribute [local go_sem] max2_int min2_int max_two min_two max_three min_three max_four min_four   -- for this text's walks alone
set_option linter.unusedVariables false
set_option linter.unusedSimpArgs false

/-! ### varint_Take: function 36 -/
theorem varint_Take.scope {P : Program} {a : Act} {w : World} {Q : Exit → Act → World → Prop} {c rest : Code} (l : Nat) (J : Act → World → Prop) (μ : Act → World → Nat) (hf : findLabel c l = some (Code.seq Code.skip rest))
    (first : (∀ a w, J a w → rest.wp P (Exit.jump l J Q) a w) → c.wp P (Exit.jump l J Q) a w)
    (pass : ∀ a w, J a w → rest.wp P (Exit.jump l (fun a' w' => J a' w' ∧ μ a' w' < μ a w) Q) a w) : (Code.scope c).wp P Q a w :=
  wp_scope_jumps l J μ hf (first fun a w h => wp_mono (pass a w h) fun e a' w' hq => by
    cases e with
    | goto l' => exact ⟨hq.1, hq.2.1⟩
    | _ => exact hq) fun a w h => wp_seq (wp_skip (pass a w h))
def varint_Take.f (a0 : ByteArray) : Option (Int × ByteArray × Int) := if a0.size ≤ 9223372036854775807 then some (Vm.takeR (Vm.dec a0.data.toList)) else none
/-- What is left behind j bytes that are 128 or more, and come to u. -/
def varint_Take.left (l : List UInt8) (j u : Nat) : Option (Int × List UInt8) :=
  if j = 10 then none else (Vm.dec1 (9 - j) (decide (j = 0)) (l.drop j)).map fun p => (Vm.uz (u + 128 ^ j * p.1), p.2)
theorem varint_Take.left_end (l : List UInt8) (j u : Nat) (h : l.length ≤ j) : varint_Take.left l j u = none := by
  unfold varint_Take.left
  split
  · rfl
  · rw [List.drop_of_length_le h]
    cases 9 - j <;> simp [Vm.dec1]
theorem varint_Take.left_on (l : List UInt8) (j u : Nat) (hj : j < 10) (h : j < l.length) (c : Nat) (hc : (l.getD j 0).toNat = c) (hc1 : 128 ≤ c) (u' : Nat) (hu : j < 9 → u' = u + 128 ^ j * (c % 128)) :
    varint_Take.left l j u = varint_Take.left l (j + 1) u' := by
  have hlt := (l.getD j 0).toNat_lt
  have hd : l.drop j = l.getD j 0 :: l.drop (j + 1) := by
    rw [List.drop_eq_getElem_cons h, List.getD_eq_getElem?_getD, List.getElem?_eq_getElem h]
    rfl
  unfold varint_Take.left
  rw [if_neg (by omega), hd]
  rcases Nat.lt_or_ge j 9 with h9 | h9
  · rw [if_neg (by omega), show 9 - j = (9 - (j + 1)) + 1 by omega]
    simp only [Vm.dec1]
    rw [if_neg (by rw [hc]; omega)]
    simp only [Option.map_map]
    rw [show decide (j + 1 = 0) = false by simp]
    refine congrArg (fun g => Option.map g (Vm.dec1 (9 - (j + 1)) false (l.drop (j + 1)))) ?_
    funext p
    simp only [Function.comp]
    rw [hu h9, Nat.pow_succ, hc, show c % 128 = c - 128 by omega]
    have : u + 128 ^ j * (p.1 * 128 + (c - 128)) = u + 128 ^ j * (c - 128) + 128 ^ j * 128 * p.1 := by
      rw [Nat.mul_add, Nat.mul_assoc, Nat.mul_comm 128 p.1]
      omega
    rw [this]
  · obtain rfl : j = 9 := by omega
    rw [if_pos rfl]
    simp only [Nat.sub_self, Vm.dec1]
    rw [if_neg (by rw [hc]; omega)]
    rfl
theorem varint_Take.left_last (l : List UInt8) (j u : Nat) (hj : j < 10) (h : j < l.length) (c : Nat) (hc : (l.getD j 0).toNat = c) (hc1 : c < 128) :
    varint_Take.left l j u = if (0 < j ∧ c = 0) ∨ (j = 9 ∧ 1 < c) then none else some (Vm.uz (u + 128 ^ j * c), l.drop (j + 1)) := by
  have hd : l.drop j = l.getD j 0 :: l.drop (j + 1) := by
    rw [List.drop_eq_getElem_cons h, List.getD_eq_getElem?_getD, List.getElem?_eq_getElem h]
    rfl
  unfold varint_Take.left
  rw [if_neg (by omega), hd]
  rcases Nat.lt_or_ge j 9 with h9 | h9
  · rw [show 9 - j = (9 - (j + 1)) + 1 by omega]
    simp only [Vm.dec1]
    rw [hc, if_pos hc1]
    by_cases hb : 0 < j ∧ c = 0
    · rw [if_pos (by simp; omega), if_pos (.inl hb)]
      rfl
    · rw [if_neg (by simp; omega), if_neg (by omega)]
      rfl
  · obtain rfl : j = 9 := by omega
    simp only [Nat.sub_self, Vm.dec1]
    rw [hc, if_pos hc1]
    by_cases hb : c = 0 ∨ 1 < c
    · rw [if_pos (by exact hb.imp_left fun hb => ⟨rfl, hb⟩), if_pos (hb.imp (fun hb => ⟨by decide, hb⟩) (fun hb => ⟨trivial, hb⟩))]
      rfl
    · rw [if_neg (by rintro (⟨_, h⟩ | h) <;> omega), if_neg (by omega)]
      rfl
theorem varint_Take.joined (j u c : Nat) (hj : j < 10) (hu : u < 128 ^ j) (hc : c < 256) : ∃ u' : Nat, Go.bits .or .u64 (u : Int) (IntKind.u64.wrap (IntKind.u64.wrap (Go.bits .and .u8 (c : Int) 127) * 2 ^ (7 * j))) = (u' : Int) ∧ ((j < 9 ∨ c ≤ 1) → u' = u + 128 ^ j * (c % 128)) := by
  have h1 : Go.bits .and .u8 (c : Int) 127 = ((c % 128 : Nat) : Int) := by
    have := bits_mask .u8 8 (by decide) wraps_u8 7 (by decide) (c : Int) (by omega) (by omega)
    rw [show (127 : Int) = 2 ^ 7 - 1 by decide, this]
    omega
  have h2 : IntKind.u64.wrap ((c % 128 : Nat) : Int) = ((c % 128 : Nat) : Int) := by rw [IntKind.wrap_u64]; omega
  have h3 : ((2 : Int) ^ (7 * j)) = ((128 ^ j : Nat) : Int) := by
    rw [Int.pow_mul]
    simp
  rw [h1, h2, h3]
  have h4 : ((c % 128 : Nat) : Int) * ((128 ^ j : Nat) : Int) = ((128 ^ j * (c % 128) : Nat) : Int) := by rw [Nat.mul_comm]; exact (Int.natCast_mul _ _).symm
  rw [h4]
  obtain ⟨x, hx⟩ : ∃ x : Nat, x = 128 ^ j * (c % 128) := ⟨_, rfl⟩
  rw [← hx]
  have h5 : IntKind.u64.wrap (x : Int) = ((x % 18446744073709551616 : Nat) : Int) := by rw [IntKind.wrap_u64]; omega
  have hp : 128 ^ j ≤ 128 ^ 9 := Nat.pow_le_pow_right (by decide) (by omega)
  rw [h5, (bits_nat .u64 64 (by decide) (fun n h0 h1 => by rw [IntKind.wrap_u64]; omega) u (x % 18446744073709551616) (by omega) (by omega)).2]
  refine ⟨_, rfl, fun hh => ?_⟩
  have hlt : x < 18446744073709551616 := by
    rcases hh with hh | hh
    · have hp8 : 128 ^ j ≤ 128 ^ 8 := Nat.pow_le_pow_right (by decide) (by omega)
      have : x ≤ 128 ^ 8 * 127 := by rw [hx]; exact Nat.mul_le_mul hp8 (by omega)
      omega
    · have : x ≤ 128 ^ 9 * 1 := by rw [hx]; exact Nat.mul_le_mul hp (by omega)
      omega
  rw [Nat.mod_eq_of_lt hlt, hx]
  have h7 : (128 : Nat) ^ j = 2 ^ (7 * j) := by rw [Nat.pow_mul]
  rw [h7] at hu ⊢
  rw [Nat.or_comm, ← Nat.two_pow_add_eq_or_of_lt hu]
  omega
theorem varint_Take.uz_eq (u : Nat) (hu : u < 18446744073709551616) : Go.bits .xor .i64 (IntKind.i64.wrap ((u : Int) / 2)) (IntKind.i64.wrap (-(IntKind.i64.wrap (Go.bits .and .u64 (u : Int) 1)))) = Vm.uz u := by
  have h1 : Go.bits .and .u64 (u : Int) 1 = ((u % 2 : Nat) : Int) := by
    have := bits_mask .u64 64 (by decide) (fun n h0 h1 => by rw [IntKind.wrap_u64]; omega) 1 (by decide) (u : Int) (by omega) (by omega)
    rw [show (1 : Int) = 2 ^ 1 - 1 by decide, this]
    omega
  have h2 : IntKind.i64.wrap ((u : Int) / 2) = ((u / 2 : Nat) : Int) := by rw [IntKind.wrap_i64]; omega
  have h3 : IntKind.i64.wrap ((u % 2 : Nat) : Int) = ((u % 2 : Nat) : Int) := by rw [IntKind.wrap_i64]; omega
  rw [h1, h2, h3]
  unfold Vm.uz
  by_cases hb : u % 2 = 1
  · rw [if_pos hb, hb]
    have h4 : IntKind.i64.wrap (-((1 : Nat) : Int)) = -1 := by rw [IntKind.wrap_i64]; omega
    rw [h4]
    have e : BitVec.ofInt 64 ((u / 2 : Nat) : Int) ^^^ BitVec.ofInt 64 (-1) = ~~~ BitVec.ofNat 64 (u / 2) := by
      rw [show BitVec.ofInt 64 (-1) = BitVec.allOnes 64 by decide, BitVec.xor_allOnes, BitVec.ofInt_natCast]
    unfold Go.bits
    show IntKind.i64.wrap ((BitVec.ofInt 64 ((u / 2 : Nat) : Int) ^^^ BitVec.ofInt 64 (-1)).toNat : Int) = _
    rw [e, BitVec.toNat_not, BitVec.toNat_ofNat, IntKind.wrap_i64]
    omega
  · rw [if_neg hb, show u % 2 = 0 by omega]
    have h4 : IntKind.i64.wrap (-((0 : Nat) : Int)) = 0 := by rw [IntKind.wrap_i64]; omega
    rw [h4]
    have e : BitVec.ofInt 64 ((u / 2 : Nat) : Int) ^^^ BitVec.ofInt 64 0 = BitVec.ofNat 64 (u / 2) := by rw [BitVec.ofInt_natCast]; simp
    unfold Go.bits
    show IntKind.i64.wrap ((BitVec.ofInt 64 ((u / 2 : Nat) : Int) ^^^ BitVec.ofInt 64 0).toNat : Int) = _
    rw [e, BitVec.toNat_ofNat, IntKind.wrap_i64]
    omega
theorem varint_Take.uz_eq' (u : Nat) (hu : u < 18446744073709551616) : Go.bits .xor .i64 (wrap64 ((u : Int) / 2)) (wrap64 (-(wrap64 (Go.bits .and .u64 (u : Int) 1)))) = Vm.uz u := by
  have h := varint_Take.uz_eq u hu
  rw [IntKind.wrap_i64, IntKind.wrap_i64, IntKind.wrap_i64] at h
  unfold wrap64
  exact h
theorem varint_Take.bad {d : Option (Int × List UInt8)} {r1 : Int} {r2 : ByteArray} {r3 : Int} (h : Vm.takeR d = (r1, r2, r3)) (hd : d = none) : Ending.returned (.tuple #[.int .i64 0, .string ⟨#[]⟩, .int .i64 2]) = .returned (.tuple #[.int .i64 r1, .string r2, .int .i64 r3]) := by
  subst hd
  simp only [Vm.takeR, Prod.mk.injEq] at h
  obtain ⟨rfl, rfl, rfl⟩ := h
  rfl
theorem varint_Take.good {d : Option (Int × List UInt8)} {r1 : Int} {r2 : ByteArray} {r3 n : Int} {s : ByteArray} {l : List UInt8} (h : Vm.takeR d = (r1, r2, r3)) (hd : d = some (n, l)) (hs : s.data.toList = l) : Ending.returned (.tuple #[.int .i64 n, .string s, .int .i64 0]) = .returned (.tuple #[.int .i64 r1, .string r2, .int .i64 r3]) := by
  subst hd
  simp only [Vm.takeR, Prod.mk.injEq] at h
  obtain ⟨rfl, rfl, rfl⟩ := h
  rw [← hs, Vm.bs_data]
set_option maxHeartbeats 8000000 in
set_option maxRecDepth 100000 in
theorem varint_Take.calls (a0 : ByteArray) (r1 : Int) (r2 : ByteArray) (r3 : Int) (w : World) (h : varint_Take.f a0 = some (r1, r2, r3)) :
    Calls Try.prog 36 #[.string a0] w fun e w' => e = .returned (.tuple #[.int .i64 r1, .string r2, .int .i64 r3]) ∧ Drawn0 w w' := by
  unfold varint_Take.f at h
  split at h
  case isFalse => cases h
  rename_i hs
  have hr : Vm.takeR (Vm.dec a0.data.toList) = (r1, r2, r3) := by injection h
  have HR := Lib.hid hr
  have HS := Lib.hid hs
  have hsz : a0.data.toList.length = a0.size := data_length a0
  have HZ := Lib.hid hsz
  clear hr h hs hsz
  go_enter Try.func36, Try.ntmps36
  go_wp2
  refine varint_Take.scope 0 (fun a' w' => w' = w ∧ ∃ (j u : Nat) (x7 x8 x9 x10 x11 x12 x13 x14 x15 x16 x17 x18 x19 x20 x21 x22 x23 x24 x25 x26 x27 x28 x29 x30 : Value), a' = { tmps := #[.string a0, undef, .int .i64 0, .string ⟨#[]⟩, .int .i64 0, .int .u64 (u : Int), .int .i64 (j : Int), x7, x8, x9, x10, x11, x12, x13, x14, x15, x16, x17, x18, x19, x20, x21, x22, x23, x24, x25, x26, x27, x28, x29, x30, undef, undef, undef, undef, undef, undef, undef, undef, undef, undef, undef, undef, undef, undef, undef, undef, undef, undef, undef, undef, undef, undef, undef, undef, undef], defers := [] } ∧ j ≤ 10 ∧ j ≤ a0.size ∧ Aside0 (j < 10 → u < 128 ^ j) ∧ Aside0 (Vm.dec a0.data.toList = varint_Take.left a0.data.toList j u)) (fun a' _ => (10 - intOf (a'.tmps.getD 6 undef)).toNat) rfl ?_ ?_
  · intro hp
    go_wp2
    go_step3
    rename_i K hK
    exact hK _ _ (hp _ _ ⟨rfl, 0, 0, _, _, _, _, _, _, _, _, _, _, _, _, _, _, _, _, _, _, _, _, _, _, _, _, rfl, by omega, by omega, ⟨fun _ => by simp⟩, ⟨by simp [varint_Take.left, Vm.dec]⟩⟩)
  · rintro a w' ⟨rfl, j, u, x7, x8, x9, x10, x11, x12, x13, x14, x15, x16, x17, x18, x19, x20, x21, x22, x23, x24, x25, x26, x27, x28, x29, x30, rfl, hj10, hjs, HU, HD⟩
    by_cases h1 : j = a0.size
    · have hb := Lib.hid (varint_Take.bad HR.out (HD.out.trans (varint_Take.left_end _ _ _ (by rw [HZ.out]; omega))))
      go_wp2
      simp only [Exit.jump]
      go_ret3
      exact ⟨hb.out, Drawn0.refl _⟩
    · have hlt : j < a0.size := by omega
      have h1b : ((j : Int) == (a0.size : Int)) = false := beq_eq_false_iff_ne.mpr (by omega)
      have h1c : (j == a0.size) = false := beq_eq_false_iff_ne.mpr (by omega)
      by_cases h2 : j = 10
      · have hb := Lib.hid (varint_Take.bad HR.out (HD.out.trans (by subst h2; rfl)))
        go_wp2
        simp only [Exit.jump]
        go_ret3
        exact ⟨hb.out, Drawn0.refl _⟩
      · have h2b : ((j : Int) == 10) = false := beq_eq_false_iff_ne.mpr (by omega)
        have hj9 : j ≤ 9 := by omega
        obtain ⟨c, hcq⟩ : ∃ c : Nat, (a0.data.toList.getD j 0).toNat = c := ⟨_, rfl⟩
        have hc256 : c < 256 := by rw [← hcq]; exact (a0.data.toList.getD j 0).toNat_lt
        have hcj : ∀ h : j < a0.size, ((a0[j]'h).toNat : Int) = (c : Int) := fun h => by
          rw [← hcq, List.getD_eq_getElem?_getD, List.getElem?_eq_getElem (by rw [HZ.out]; exact h)]
          rfl
        have HC := Lib.hid hcq
        clear hcq
        obtain ⟨u', hor, hu'⟩ := varint_Take.joined j u c (by omega) (HU.out (by omega)) hc256
        have HU' := Lib.hid hu'
        clear hu' h1 h2
        by_cases h3 : 128 ≤ c
        · have hon := Lib.hid (varint_Take.left_on _ j u (by omega) (by rw [HZ.out]; exact hlt) c HC.out h3 u' (fun h9 => HU'.out (.inl h9)))
          go_wp2
          go_step3
          refine ⟨rfl, ⟨rfl, j + 1, u', _, _, _, _, _, _, _, _, _, _, _, _, _, _, _, _, _, _, _, _, _, _, _, _, rfl, by omega, by omega, ⟨fun h => ?_⟩, ⟨HD.out.trans hon.out⟩⟩, ?_⟩
          · have hu := HU.out (by omega)
            rw [HU'.out (.inl (by omega)), Nat.pow_succ]
            have : 128 ^ j * (c % 128) ≤ 128 ^ j * 127 := Nat.mul_le_mul_left _ (by omega)
            omega
          · simp [intOf]
            omega
        · have hlast := Lib.hid (varint_Take.left_last _ j u (by omega) (by rw [HZ.out]; exact hlt) c HC.out (by omega))
          by_cases h4 : (0 < j ∧ c = 0) ∨ (j = 9 ∧ 1 < c)
          · have hb := Lib.hid (varint_Take.bad HR.out (HD.out.trans (hlast.out.trans (if_pos h4))))
            clear hlast
            rcases h4 with ⟨h4, h5⟩ | ⟨h4, h5⟩
            · subst h5
              go_wp2
              simp only [Exit.jump]
              go_ret3
              exact ⟨hb.out, Drawn0.refl _⟩
            · subst h4
              have h6 : ((c : Int) == 0) = false := beq_eq_false_iff_ne.mpr (by omega)
              go_wp2
              simp only [Exit.jump]
              go_ret3
              exact ⟨hb.out, Drawn0.refl _⟩
          · have hg := Lib.hid (varint_Take.good (s := a0.extract (j + 1) a0.size) HR.out (HD.out.trans (hlast.out.trans (if_neg h4))) (by rw [← HZ.out]; simp [ByteArray.data_extract]; exact List.take_of_length_le (by simp)))
            have hue : u' = u + 128 ^ j * c := by
              have := HU'.out (by omega)
              rwa [show c % 128 = c by omega] at this
            have hul : u' < 18446744073709551616 := by
              have hu := HU.out (by omega)
              rcases Nat.lt_or_ge j 9 with h9 | h9
              · have hp8 : 128 ^ j ≤ 128 ^ 8 := Nat.pow_le_pow_right (by decide) (by omega)
                have : 128 ^ j * c ≤ 128 ^ 8 * 127 := Nat.mul_le_mul hp8 (by omega)
                omega
              · obtain rfl : j = 9 := by omega
                have : 128 ^ 9 * c ≤ 128 ^ 9 * 1 := Nat.mul_le_mul_left _ (by omega)
                omega
            have huz := varint_Take.uz_eq' u' hul
            rw [← hue] at hg
            have hj1 : ((j : Int) + 1).toNat = j + 1 := by omega
            clear hlast hul
            have HUE := Lib.hid hue
            clear hue
            have H4 := Lib.hid h4
            clear h4
            rcases Nat.eq_zero_or_pos j with h5 | h5
            · have h6 : decide (0 < (j : Int)) = false := decide_eq_false (by omega)
              have h7 : decide (1 < (j : Int) + 1) = false := decide_eq_false (by omega)
              have h8 : ((j : Int) + 1 == 10) = false := beq_eq_false_iff_ne.mpr (by omega)
              have H5 := Lib.hid h5
              clear h5
              go_wp2
              go_quiet (fail)
              go_wp2
              simp only [Exit.jump]
              go_ret3
              exact ⟨hg.out, ⟨⟨_, rfl⟩⟩⟩
            · have h6 : ((c : Int) == 0) = false := beq_eq_false_iff_ne.mpr (by have := H4.out; omega)
              by_cases h7 : j = 9
              · have h8 : decide (1 < (c : Int)) = false := decide_eq_false (by have := H4.out; omega)
                have h9 : ((j : Int) + 1 == 10) = true := beq_iff_eq.mpr (by omega)
                have H7 := Lib.hid h7
                clear h7
                go_wp2
                go_quiet (fail)
                go_wp2
                simp only [Exit.jump]
                go_ret3
                exact ⟨hg.out, ⟨⟨_, rfl⟩⟩⟩
              · have h8 : ((j : Int) + 1 == 10) = false := beq_eq_false_iff_ne.mpr (by omega)
                go_wp2
                go_quiet (fail)
                go_wp2
                simp only [Exit.jump]
                go_ret3
                exact ⟨hg.out, ⟨⟨_, rfl⟩⟩⟩

/-! ### varint_TakeAll: function 29 -/
mutual
def varint_TakeAll.j0 : Nat → ByteArray → Int → Bool → Option (List Int × ByteArray × Int)
  | 0, _, _, _ => none
  | k + 1, x0, x1, x16 => if x16 = true then (some (([] : List Int), (⟨#[]⟩ : ByteArray), 1)) else (varint_TakeAll.l0 k x0 ([] : List Int) x1 0)
def varint_TakeAll.l0 : Nat → ByteArray → List Int → Int → Int → Option (List Int × ByteArray × Int)
  | 0, _, _, _, _ => none
  | k + 1, x0, x7, x17, x18 => if x18 < x17 then ((varint_Take.f x0).bind fun bt377 => (if bt377.2.2 = 0 then (if x7.length < 17592186044416 then (varint_TakeAll.l0 k bt377.2.1 (x7 ++ [bt377.1]) x17 (wrap64 (x18 + 1))) else (none)) else (some (([] : List Int), (⟨#[]⟩ : ByteArray), bt377.2.2)))) else (some (x7, x0, 0))
end
def varint_TakeAll.f (k : Nat) (a0 : ByteArray) (a1 : Int) : Option (List Int × ByteArray × Int) := if a1 < 0 then (varint_TakeAll.j0 k a0 a1 true) else (varint_TakeAll.j0 k a0 a1 (decide (a1 > 64)))
theorem varint_TakeAll.mono_l : ∀ k, (∀ y0 y1 y2, LeO (varint_TakeAll.j0 k y0 y1 y2) (varint_TakeAll.j0 (k + 1) y0 y1 y2)) ∧ (∀ y0 y1 y2 y3, LeO (varint_TakeAll.l0 k y0 y1 y2 y3) (varint_TakeAll.l0 (k + 1) y0 y1 y2 y3))
  | 0 => ⟨fun _ _ _ r h => by simp [varint_TakeAll.j0] at h, fun _ _ _ _ r h => by simp [varint_TakeAll.l0] at h⟩
  | k + 1 => by
    obtain ⟨ih0, ih1⟩ := varint_TakeAll.mono_l k
    refine ⟨?_, ?_⟩
    · intro y0 y1 y2
      unfold varint_TakeAll.j0
      repeat' first
      | (with_reducible exact ih0 _ _ _)
      | (with_reducible exact ih1 _ _ _ _)
      | (with_reducible exact LeO.refl _)
      | (with_reducible exact LeO.none _)
      | (with_reducible refine LeO.ite ?_ ?_)
      | (with_reducible refine LeO.bind ?_ (fun _ => ?_))
      | exact ih0 _ _ _
      | exact ih1 _ _ _ _
      | exact LeO.none _
      | refine LeO.ite ?_ ?_
      | refine LeO.bind ?_ (fun _ => ?_)
    · intro y0 y1 y2 y3
      unfold varint_TakeAll.l0
      repeat' first
      | (with_reducible exact ih0 _ _ _)
      | (with_reducible exact ih1 _ _ _ _)
      | (with_reducible exact LeO.refl _)
      | (with_reducible exact LeO.none _)
      | (with_reducible refine LeO.ite ?_ ?_)
      | (with_reducible refine LeO.bind ?_ (fun _ => ?_))
      | exact ih0 _ _ _
      | exact ih1 _ _ _ _
      | exact LeO.none _
      | refine LeO.ite ?_ ?_
      | refine LeO.bind ?_ (fun _ => ?_)
theorem varint_TakeAll.mono : ∀ a0 a1 k, LeO (varint_TakeAll.f k a0 a1) (varint_TakeAll.f (k + 1) a0 a1) := by
  intro a0 a1 k
  obtain ⟨ih0, ih1⟩ := varint_TakeAll.mono_l k
  unfold varint_TakeAll.f
  repeat' first
      | (with_reducible exact ih0 _ _ _)
      | (with_reducible exact ih1 _ _ _ _)
      | (with_reducible exact LeO.refl _)
      | (with_reducible exact LeO.none _)
      | (with_reducible refine LeO.ite ?_ ?_)
      | (with_reducible refine LeO.bind ?_ (fun _ => ?_))
      | exact ih0 _ _ _
      | exact ih1 _ _ _ _
      | exact LeO.none _
      | refine LeO.ite ?_ ?_
      | refine LeO.bind ?_ (fun _ => ?_)
set_option maxHeartbeats 8000000 in
set_option maxRecDepth 100000 in
theorem varint_TakeAll.calls (k : Nat) (a0 : ByteArray) (a1 : Int) (r1 : List Int) (r2 : ByteArray) (r3 : Int) (w : World) (h : varint_TakeAll.f k a0 a1 = some (r1, r2, r3)) :
    Calls Try.prog 29 #[.string a0, .int .i64 a1] w fun e w' => ∃ v0_ : Value, e = .returned (.tuple #[v0_, .string r2, .int .i64 r3]) ∧ Kd.R (Kd.int .i64) 3 w' w.heap.size (fun _ => True) v0_ r1 ∧ Below w.heap.size w w' := by
  have HB := Aside0.mk (Below.refl w.heap.size w)
  have H : (if a1 < 0 then (varint_TakeAll.j0 k a0 a1 true) else (varint_TakeAll.j0 k a0 a1 (decide (a1 > 64)))) = some (r1, r2, r3) := h
  clear h
  have HC3 := Aside0.mk H
  clear H
  go_enter Try.func29, Try.ntmps29
  go_upto_region 1 with (fail)
  go_cut [16] (fun v16 wc => ∃ (kq : Nat) (x16_2 : Bool), v16 = .bool x16_2 ∧ Aside0 (varint_TakeAll.j0 kq a0 a1 x16_2 = some (r1, r2, r3)) ∧ Aside0 (kq ≤ k) ∧ Aside0 (Below w.heap.size w wc))
  case first =>
    have H := HC3.out
    clear HC3
    by_cases c4 : a1 < 0
    · rw [if_pos c4] at H
      have c4b0 : decide (a1 < 0) = true := decide_eq_true c4
      clear c4
      (first | rw [c4b0] | rw [c4b9] | (simp only [i64_w, i32_w]; rw [c4b0]) | skip)
      have H' := Aside0.mk H
      clear H
      go_wp2
      go_meet
      case rel => exact ⟨_, (true), (by first | rfl | (simp; done) | (simp [*]; done)), H', ⟨by first | omega | exact Nat.le_refl _⟩, ⟨by repeat (first | (with_reducible first | exact HB.out | apply below_alloc | apply pw_below_drewN | apply below_drew1) | exact HB.out)⟩⟩
    · rw [if_neg c4] at H
      have c4b0 : decide (a1 < 0) = false := decide_eq_false c4
      clear c4
      (first | rw [c4b0] | rw [c4b9] | (simp only [i64_w, i32_w]; rw [c4b0]) | skip)
      have H' := Aside0.mk H
      clear H
      go_wp2
      go_meet
      case rel => exact ⟨_, (decide (a1 > 64)), (by first | rfl | (simp; done) | (simp [*]; done)), H', ⟨by first | omega | exact Nat.le_refl _⟩, ⟨by repeat (first | (with_reducible first | exact HB.out | apply below_alloc | apply pw_below_drewN | apply below_drew1) | exact HB.out)⟩⟩
  case rest =>
    clear HC3
    try clear c2
    try clear p2
    try clear c4
    try clear c4b0
    obtain ⟨kq, x16_2, rfl, HA, HJ2, HB⟩ := hcut
    cases kq with
    | zero => exact absurd HA.out (by simp [varint_TakeAll.j0])
    | succ kj2 =>
      have H := HA.out
      clear HA
      simp only [varint_TakeAll.j0] at H
      by_cases c5 : x16_2 = true
      · subst c5
        have H1 : (some (([] : List Int), (⟨#[]⟩ : ByteArray), 1)) = some (r1, r2, r3) := by rw [if_pos rfl] at H; exact H
        clear H
        have H := H1
        clear H1
        simp only [Option.some.injEq, Prod.mk.injEq] at H
        obtain ⟨rfl, rfl, rfl⟩ := H
        go_wp2
        go_ret3
        exact ⟨_, by first | rfl | (simp [errW_none, errW_some] <;> rfl) | (simp [*, errW_none, errW_some] <;> rfl), by first | exact Kd.R_nil _ _ _ _ _ | exact Kd.N_nil _ _ _ _ _ | exact Kd.V_nil _ _ _ _ _ | exact Kd.Q_nil _ _ _ _ _ | exact Kd.S_nil _ _ _ _ _, by repeat (first | (with_reducible first | exact HB.out | apply below_alloc | apply pw_below_drewN | apply below_drew1) | exact HB.out)⟩
      · replace c5 := Bool.eq_false_iff.mpr c5
        subst c5
        have H1 : (varint_TakeAll.l0 kj2 a0 ([] : List Int) a1 0) = some (r1, r2, r3) := by rw [if_neg (show ¬ (false = true) by decide)] at H; exact H
        clear H
        have H := H1
        clear H1
        have H' := Aside0.mk H
        clear H
        go_wp2
        go_loopg [0, 7, 18] kj2 (fun kq v0 v7 v18 w' => ∃ (x0_2 : ByteArray) (x7_2 : List Int) (x18_2 : Int), v0 = .string x0_2 ∧ v18 = .int .i64 x18_2 ∧ Aside0 (varint_TakeAll.l0 kq x0_2 x7_2 a1 x18_2 = some (r1, r2, r3)) ∧ Aside0 (kq ≤ kj2) ∧ Aside0 (Kd.R (Kd.int .i64) 3 w' w.heap.size (fun _ => True) v7 x7_2) ∧ Aside0 (Below w.heap.size w w'))
        case atStart => exact ⟨(a0), (([] : List Int)), (0), (by first | rfl | (simp; done) | (simp [*]; done)), (by first | rfl | (simp; done) | (simp [*]; done)), H', ⟨Nat.le_refl _⟩, ⟨by first | exact Kd.R_nil _ _ _ _ _ | exact Kd.N_nil _ _ _ _ _ | exact Kd.V_nil _ _ _ _ _ | exact Kd.Q_nil _ _ _ _ _ | exact Kd.S_nil _ _ _ _ _⟩, ⟨by repeat (first | (with_reducible first | exact HB.out | apply below_alloc | apply pw_below_drewN | apply below_drew1) | exact HB.out)⟩⟩
        case round =>
          clear H'
          try clear c2
          try clear p2
          try clear c4
          try clear c4b0
          try clear c5
          try clear p2
          obtain ⟨x0_2, x7_2, x18_2, rfl, rfl, HA, HK2, HO_7, HB⟩ := hrel
          cases gk with
          | zero => exact absurd HA.out (by simp [varint_TakeAll.l0])
          | succ k2 =>
            have H := HA.out
            clear HA
            simp only [varint_TakeAll.l0] at H
            by_cases c6 : x18_2 < a1
            · rw [if_pos c6] at H
              have c6b0 : decide (x18_2 < a1) = true := decide_eq_true c6
              clear c6
              replace H := Option.bind_eq_some_iff.mp H
              obtain ⟨⟨t377, t378, t379⟩, A70, H⟩ := H
              replace H : (if t379 = 0 then (if x7_2.length < 17592186044416 then (varint_TakeAll.l0 k2 t378 (x7_2 ++ [t377]) a1 (wrap64 (x18_2 + 1))) else (none)) else (some (([] : List Int), (⟨#[]⟩ : ByteArray), t379))) = some (r1, r2, r3) := H
              have A7 := Aside0.mk A70
              clear A70
              by_cases c8 : t379 = 0
              · rw [if_pos c8] at H
                have c8b0 : (t379 == 0) = true := beq_iff_eq.mpr c8
                have c8b1 : (t379 != 0) = false := bne_eq_false_iff_eq.mpr c8
                clear c8
                by_cases c9 : x7_2.length < 17592186044416
                · rw [if_pos c9] at H
                  have LMc9 := Aside0.mk c9
                  clear c9
                  obtain ⟨y380, hy380⟩ : ∃ y_ : List Int, y_ = (x7_2 ++ [t377]) := ⟨_, rfl⟩
                  replace H : (varint_TakeAll.l0 k2 t378 y380 a1 (wrap64 (x18_2 + 1))) = some (r1, r2, r3) := by first | (rw [hy380]; with_reducible exact H) | (have H2_ := (Option.bind_some _ _).symm.trans H; rw [hy380]; with_reducible exact H2_) | (have H2_ := (Option.bind_some _ _).symm.trans H; with_reducible exact H2_) | with_reducible exact H | (rw [hy380]; exact H) | exact H
                  have Ny380 := Aside0.mk hy380
                  clear hy380
                  have H' := Aside0.mk H
                  clear H
                  go_wp2_with (first | ((with_reducible refine gate_callee (f := 36) rfl ?_); refine goesL_ (some 22) rfl rfl Try.func36 (by kernel_rfl) rfl #[.string x0_2] rfl (by (try simp only [List.map_toArray, List.map_cons, List.map_nil]); first | done | rfl | (simp only [List.length_drop, List.length_take]; rfl)) ?_; (with_reducible refine (varint_Take.calls x0_2 t377 t378 t379 _ A7.out).mono ?_); rintro e w' ⟨rfl, ⟨nd, rfl⟩⟩; refine ⟨_, rfl, ?_⟩) | ((with_reducible refine gate_builtin (b := .append) (xs := #[.tmp 29, .tmp 31]) rfl ?_); at_builtin; refine Kd.R_append (Kd.int .i64) (w0 := w) w.heap.size rfl (.tmp 29) (.tmp 31) 29 3 (.int .i64 0) 8 rfl Try.underlying29 info3 rfl (by decide) (by omega) u7 x7_2 t377 [.int .i64 t377] (fun _ => True) (fun _ => False) rfl rfl ?aP (fun _ hk => hk.elim) ?aF ?aO ?aB ?aS ?aL ?_; (case aP => exact rfl); (case aB => exact (by repeat (first | (with_reducible first | exact HB.out | apply below_alloc | apply pw_below_drewN | apply below_drew1) | exact HB.out))); (case aF => exact (fun _ _ => trivial)); (case aO => exact (by (with_reducible repeat (first | apply Kd.R_alloc | apply Kd.R_drewN | apply Kd.R_drew)); exact HO_7.out)); (case aS => exact (below_size (by repeat (first | (with_reducible first | exact HB.out | apply below_alloc | apply pw_below_drewN | apply below_drew1) | exact HB.out)))); (case aL => have := LMc9.out; omega); intro v381 w10 ho hb hg hat; rw [← Ny380.out] at ho; have n0_ := Aside0.mk (hb); have n1_ := Aside0.mk (ho); clear HB; clear HO_7; have HB := n0_; have HO382 := n1_; clear n0_ n1_; clear ho hb hg hat))
                  go_roundg k2
                  case measure => have := HJ2.out; have := HK2.out; omega
                  case rel => exact ⟨(t378), (y380), (wrap64 (x18_2 + 1)), (by first | rfl | (simp; done) | (simp [*]; done)), (by first | rfl | (simp; done) | (simp [*]; done)), H', ⟨by have := HJ2.out; have := HK2.out; omega⟩, ⟨by (with_reducible repeat (first | apply Kd.R_alloc | apply Kd.R_drewN | apply Kd.R_drew)); exact HO382.out⟩, ⟨by repeat (first | (with_reducible first | exact HB.out | apply below_alloc | apply pw_below_drewN | apply below_drew1) | exact HB.out)⟩⟩
                · rw [if_neg c9] at H
                  exact absurd H (by simp)
              · rw [if_neg c8] at H
                have c8b0 : (t379 == 0) = false := beq_eq_false_iff_ne.mpr c8
                have c8b1 : (t379 != 0) = true := bne_iff_ne.mpr c8
                simp only [Option.some.injEq, Prod.mk.injEq] at H
                obtain ⟨rfl, rfl, rfl⟩ := H
                go_wp2_with (first | ((with_reducible refine gate_callee (f := 36) rfl ?_); refine goesL_ (some 22) rfl rfl Try.func36 (by kernel_rfl) rfl #[.string x0_2] rfl (by (try simp only [List.map_toArray, List.map_cons, List.map_nil]); first | done | rfl | (simp only [List.length_drop, List.length_take]; rfl)) ?_; (with_reducible refine (varint_Take.calls x0_2 t377 t378 t379 _ A7.out).mono ?_); rintro e w' ⟨rfl, ⟨nd, rfl⟩⟩; refine ⟨_, rfl, ?_⟩))
                go_ret3
                exact ⟨_, by first | rfl | (simp [errW_none, errW_some] <;> rfl) | (simp [*, errW_none, errW_some] <;> rfl), by first | exact Kd.R_nil _ _ _ _ _ | exact Kd.N_nil _ _ _ _ _ | exact Kd.V_nil _ _ _ _ _ | exact Kd.Q_nil _ _ _ _ _ | exact Kd.S_nil _ _ _ _ _, by repeat (first | (with_reducible first | exact HB.out | apply below_alloc | apply pw_below_drewN | apply below_drew1) | exact HB.out)⟩
            · rw [if_neg c6] at H
              have c6b0 : decide (x18_2 < a1) = false := decide_eq_false c6
              clear c6
              simp only [Option.some.injEq, Prod.mk.injEq] at H
              obtain ⟨rfl, rfl, rfl⟩ := H
              go_wp2
              go_ret3
              exact ⟨_, by first | rfl | (simp [errW_none, errW_some] <;> rfl) | (simp [*, errW_none, errW_some] <;> rfl), by (with_reducible repeat (first | apply Kd.R_alloc | apply Kd.R_drewN | apply Kd.R_drew)); exact HO_7.out, by repeat (first | (with_reducible first | exact HB.out | apply below_alloc | apply pw_below_drewN | apply below_drew1) | exact HB.out)⟩

end Go.Proofs.Ytpffggpedogifaa.P
