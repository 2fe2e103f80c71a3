/- Plain law of the numbers' bytes: no program in sight. -/
import Derived.Laws.Strings
import Derived.Laws.Strings2
import Derived.Laws.Concat
import Derived.Laws.BytesArg
namespace Go.Proofs.Ytikbpjdgihheiaa.Vm

def bs (l : List UInt8) : ByteArray := ⟨l.toArray⟩
theorem bs_of (s : ByteArray) : ∃ l, s = bs l := ⟨s.data.toList, by cases s; simp [bs]⟩
theorem bs_data (s : ByteArray) : bs s.data.toList = s := by cases s; simp [bs]
@[simp] theorem data_bs (l : List UInt8) : (bs l).data.toList = l := by simp [bs]
@[simp] theorem size_bs (l : List UInt8) : (bs l).size = l.length := rfl
@[simp] theorem toList_bs (l : List UInt8) : (bs l).toList = l := ByteArray.toList_mk l
theorem append_bs (a b : List UInt8) : bs a ++ bs b = bs (a ++ b) := ByteArray.mk_append_mk a b
theorem extract_bs (l : List UInt8) (a b : Nat) : (bs l).extract a b = bs ((l.drop a).take (b - a)) := ByteArray.extract_mk l a b
theorem bs_inj {a b : List UInt8} : bs a = bs b ↔ a = b := ⟨fun h => by have := congrArg (fun s : ByteArray => s.data.toList) h; simpa using this, fun h => by rw [h]⟩
theorem strOfNums_bs (xs : List Int) : strOfNums xs = bs (xs.map fun n => UInt8.ofNat n.toNat) := rfl

/-- Sevens of bits, the lowest first; f: how many bytes more there may be. -/
def sev : Nat → Nat → List UInt8
  | 0, u => [UInt8.ofNat u]
  | f + 1, u => if u < 128 then [UInt8.ofNat u] else UInt8.ofNat (u % 128 + 128) :: sev f (u / 128)
def zz (n : Int) : Nat := if n < 0 then (-(2 * n) - 1).toNat else (2 * n).toNat
def uz (u : Nat) : Int := if u % 2 = 1 then -((u / 2 : Nat) : Int) - 1 else ((u / 2 : Nat) : Int)
def enc (n : Int) : List UInt8 := sev 9 (zz n)
/-- The number that bytes begin with; b: is this its first byte. -/
def dec1 : Nat → Bool → List UInt8 → Option (Nat × List UInt8)
  | _, _, [] => none
  | 0, b, c :: t => if c.toNat < 128 then (if (b = false ∧ c.toNat = 0) ∨ 1 < c.toNat then none else some (c.toNat, t)) else none
  | f + 1, b, c :: t => if c.toNat < 128 then (if b = false ∧ c.toNat = 0 then none else some (c.toNat, t)) else (dec1 f false t).map fun p => (p.1 * 128 + (c.toNat - 128), p.2)
def dec (l : List UInt8) : Option (Int × List UInt8) := (dec1 9 true l).map fun p => (uz p.1, p.2)
def I64 (n : Int) : Prop := -9223372036854775808 ≤ n ∧ n ≤ 9223372036854775807
instance (n : Int) : Decidable (I64 n) := by unfold I64; infer_instance
def takeR : Option (Int × List UInt8) → Int × ByteArray × Int
  | some (n, r) => (n, bs r, 0)
  | none => (0, bs [], 2)

theorem toNat_ofNat_lt {n : Nat} (h : n < 256) : (UInt8.ofNat n).toNat = n := by simp [UInt8.toNat_ofNat']; omega
theorem ofNat_toNat (c : UInt8) : UInt8.ofNat c.toNat = c := by simp
theorem ofNat_eq {c : UInt8} {n : Nat} (h : c.toNat = n) : UInt8.ofNat n = c := by rw [← h]; simp
theorem sev_len (f u : Nat) : 1 ≤ (sev f u).length ∧ (sev f u).length ≤ f + 1 := by
  induction f generalizing u with
  | zero => simp [sev]
  | succ f ih =>
    unfold sev
    split
    · simp
    · have := ih (u / 128); simp; omega
theorem sev_succ (f u : Nat) : sev (f + 1) u = if u < 128 then [UInt8.ofNat u] else UInt8.ofNat (u % 128 + 128) :: sev f (u / 128) := rfl
theorem dec1_iff (f : Nat) : ∀ (b : Bool) (l : List UInt8) (u : Nat) (r : List UInt8), dec1 f b l = some (u, r) ↔ l = sev f u ++ r ∧ u < 2 * 128 ^ f ∧ (b = false → 0 < u) := by
  induction f with
  | zero =>
    intro b l u r
    cases l with
    | nil => simp [dec1, sev]
    | cons c t =>
      simp only [dec1, sev, List.cons_append, List.nil_append, List.cons.injEq, Nat.pow_zero, Nat.mul_one]
      constructor
      · intro h
        split at h
        · split at h
          · cases h
          · rename_i h1 h2
            simp only [Option.some.injEq, Prod.mk.injEq] at h
            obtain ⟨rfl, rfl⟩ := h
            refine ⟨⟨by simp, rfl⟩, by omega, fun hb => ?_⟩
            simp only [not_or, not_and] at h2
            have := h2.1 hb
            omega
        · cases h
      · rintro ⟨⟨rfl, rfl⟩, h2, h3⟩
        have hu : (UInt8.ofNat u).toNat = u := toNat_ofNat_lt (by omega)
        rw [hu, if_pos (by omega), if_neg]
        rintro (⟨hb, h0⟩ | h1)
        · have := h3 hb; omega
        · omega
  | succ f ih =>
    intro b l u r
    cases l with
    | nil => 
      constructor
      · intro h; simp [dec1] at h
      · rintro ⟨h, -⟩
        have := (sev_len (f + 1) u).1
        have h' := congrArg List.length h
        simp at h'
        omega
    | cons c t =>
      have hp : 1 ≤ 128 ^ f := Nat.pow_pos (by decide)
      have hs : 2 * 128 ^ (f + 1) = 128 * (2 * 128 ^ f) := by rw [Nat.pow_succ]; omega
      simp only [dec1]
      by_cases hc : c.toNat < 128
      · rw [if_pos hc]
        constructor
        · intro h
          split at h
          · cases h
          · rename_i h2
            simp only [Option.some.injEq, Prod.mk.injEq] at h
            obtain ⟨rfl, rfl⟩ := h
            refine ⟨by simp [sev, hc], by omega, fun hb => ?_⟩
            simp only [not_and] at h2
            have := h2 hb
            omega
        · rintro ⟨h1, h2, h3⟩
          rw [sev_succ] at h1
          split at h1
          · rename_i hu
            simp only [List.cons_append, List.nil_append, List.cons.injEq] at h1
            obtain ⟨rfl, rfl⟩ := h1
            have hu' : (UInt8.ofNat u).toNat = u := toNat_ofNat_lt (by omega)
            rw [hu', if_neg]
            rintro ⟨hb, h0⟩
            have := h3 hb
            omega
          · simp only [List.cons_append, List.cons.injEq] at h1
            obtain ⟨rfl, -⟩ := h1
            rw [toNat_ofNat_lt (by omega)] at hc
            omega
      · rw [if_neg hc]
        constructor
        · intro h
          simp only [Option.map_eq_some_iff, Prod.exists, Prod.mk.injEq] at h
          obtain ⟨v, r', hd, hv, rfl⟩ := h
          obtain ⟨rfl, h2, h3⟩ := (ih false t v r').1 hd
          have h3 := h3 rfl
          have hlt := c.toNat_lt
          rw [sev_succ]
          rw [if_neg (by omega)]
          refine ⟨?_, by omega, fun _ => by omega⟩
          simp only [List.cons_append, List.cons.injEq]
          refine ⟨(ofNat_eq (by omega)).symm, ?_⟩
          rw [show u / 128 = v by omega]
        · rintro ⟨h1, h2, -⟩
          rw [sev_succ] at h1
          split at h1
          · rename_i hu
            simp only [List.cons_append, List.nil_append, List.cons.injEq] at h1
            obtain ⟨rfl, -⟩ := h1
            rw [toNat_ofNat_lt (by omega)] at hc
            omega
          · simp only [List.cons_append, List.cons.injEq] at h1
            obtain ⟨rfl, ht⟩ := h1
            have hn : (UInt8.ofNat (u % 128 + 128)).toNat = u % 128 + 128 := toNat_ofNat_lt (by omega)
            simp only [Option.map_eq_some_iff, Prod.exists, Prod.mk.injEq]
            exact ⟨u / 128, r, (ih false t _ r).2 ⟨ht, by omega, fun _ => by omega⟩, by rw [hn]; omega, rfl⟩

theorem uz_zz (n : Int) : uz (zz n) = n := by unfold uz zz; split <;> split <;> omega
theorem zz_uz (u : Nat) : zz (uz u) = u := by unfold uz zz; split <;> split <;> omega
theorem zz_lt {n : Int} : zz n < 18446744073709551616 ↔ I64 n := by unfold zz I64; split <;> omega
theorem dec_iff (l : List UInt8) (n : Int) (r : List UInt8) : dec l = some (n, r) ↔ l = enc n ++ r ∧ I64 n := by
  unfold dec enc
  simp only [Option.map_eq_some_iff, Prod.exists, Prod.mk.injEq]
  constructor
  · rintro ⟨u, r', hd, rfl, rfl⟩
    obtain ⟨h1, h2, -⟩ := (dec1_iff 9 true l u r').1 hd
    rw [zz_uz]
    refine ⟨h1, zz_lt.1 ?_⟩
    rw [zz_uz]
    exact h2
  · rintro ⟨rfl, hn⟩
    exact ⟨zz n, r, (dec1_iff 9 true _ _ _).2 ⟨rfl, zz_lt.2 hn, fun h => by cases h⟩, uz_zz n, rfl⟩
theorem dec_enc {n : Int} (hn : I64 n) (r : List UInt8) : dec (enc n ++ r) = some (n, r) := (dec_iff _ _ _).2 ⟨rfl, hn⟩
theorem enc_len (n : Int) : 1 ≤ (enc n).length ∧ (enc n).length ≤ 10 := sev_len 9 _
theorem enc_inj {m n : Int} (hm : I64 m) (hn : I64 n) {a b : List UInt8} (h : enc m ++ a = enc n ++ b) : m = n ∧ a = b := by
  have h1 := dec_enc hm a
  rw [h, dec_enc hn b] at h1
  simp only [Option.some.injEq, Prod.mk.injEq] at h1
  exact ⟨h1.1.symm, h1.2.symm⟩
/-- How many bytes a number has. -/
theorem sev_le (f : Nat) : ∀ (k u : Nat), u < 2 * 128 ^ f → k ≤ f → ((sev f u).length ≤ k + 1 ↔ u < 128 ^ (k + 1)) := by
  induction f with
  | zero =>
    intro k u hu hk
    obtain rfl : k = 0 := by omega
    simp [sev]
    omega
  | succ f ih =>
    intro k u hu hk
    have hs : 2 * 128 ^ (f + 1) = 128 * (2 * 128 ^ f) := by rw [Nat.pow_succ]; omega
    have hp : 1 ≤ 128 ^ k := Nat.pow_pos (by decide)
    have hk1 : 128 ^ (k + 1) = 128 * 128 ^ k := by rw [Nat.pow_succ]; omega
    rw [sev_succ]
    split
    · simp; omega
    · cases k with
      | zero =>
        have := (sev_len f (u / 128)).1
        rw [List.length_cons, hk1, Nat.pow_zero]
        omega
      | succ k =>
        have := ih k (u / 128) (by omega) (by omega)
        simp only [List.length_cons]
        rw [hk1]
        have hk2 : 128 ^ (k + 1) = 128 * 128 ^ k := by rw [Nat.pow_succ]; omega
        constructor
        · intro h; have := this.1 (by omega); omega
        · intro h; have := this.2 (by omega); omega
end Go.Proofs.Ytikbpjdgihheiaa.Vm
