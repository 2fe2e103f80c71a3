/- The entries with whose frames any bytes begin are yielded, in order, until whoever asks leaves. No condition. -/
import Derived.Test.YtgfmbddkefjchaaPx2
import Derived.Test.YtgfmbddkefjchaaPx3
import Derived.Test.YtgfmbddkefjchaaPx4
import Derived.Test.YtgfmbddkefjchaaPx5
import Derived.Test.YtgfmbddkefjchaaPx6
import Derived.Test.YtgfmbddkefjchaaPx7
import Derived.Test.YtgfmbddkefjchaaPx8
import Derived.Test.YtgfmbddkefjchaaPx13
import Derived.Test.YtgfmbddkefjchaaPx20
import Derived.Test.YtgfmbddkefjchaaVm
import Derived.Laws.Bits64
import Derived.Test.YtgfmbddkefjchaaCk
set_option linter.unusedVariables false
set_option linter.unusedSimpArgs false
namespace Go.Proofs.Ytgfmbddkefjchaa.Vref
open Go.RowKit Go.Proofs.Ytgfmbddkefjchaa.Vm Go.Proofs.Ytgfmbddkefjchaa.P Go.Proofs.YtgfmbddkefjchaaW.PrintWords
theorem w64 {x : Int} (h0 : -9223372036854775808 ≤ x) (h1 : x ≤ 9223372036854775807) : wrap64 x = x := by unfold wrap64; omega
theorem bt_bs (l : List UInt8) (i : Nat) (h : i < l.length) : bt (bs l) (i : Int) = ((l.getD i 0).toNat : Int) := by
  unfold bt
  rw [dif_pos (by simpa using h)]
  simp only [Int.toNat_natCast]
  rw [List.getD_eq_getElem?_getD, List.getElem?_eq_getElem h]
  rfl
end Go.Proofs.Ytgfmbddkefjchaa.Vref
set_option linter.unusedVariables false
set_option linter.unusedSimpArgs false
namespace Go.Proofs.Ytgfmbddkefjchaa.Vp
open Go.RowKit Go.Proofs.Ytgfmbddkefjchaa.Vm Go.Proofs.Ytgfmbddkefjchaa.Vref Go.Proofs.Ytgfmbddkefjchaa.P Go.Proofs.YtgfmbddkefjchaaW.PrintWords
theorem put_eq {n : Int} (h : I64 n) : varint_Put.f n = some (bs (enc n)) := if_pos h
theorem take_eq (l : List UInt8) (h : l.length ≤ 9223372036854775807) : varint_Take.f (bs l) = some (takeR (dec l)) := by
  unfold varint_Take.f
  rw [size_bs, if_pos h, data_bs]
theorem len_i64 {l : List UInt8} (h : l.length ≤ 9223372036854775807) : I64 (l.length : Int) := by unfold I64; omega
theorem takeR_1 (n : Int) (r : List UInt8) : (takeR (some (n, r))).1 = n := rfl
theorem takeR_2 (n : Int) (r : List UInt8) : (takeR (some (n, r))).2.1 = bs r := rfl
theorem takeR_3 (n : Int) (r : List UInt8) : (takeR (some (n, r))).2.2 = 0 := rfl
theorem takeR_n3 : (takeR none).2.2 = 2 := rfl
/-- A text of so many bytes at most, with which bytes begin. -/
def ttext (l : List UInt8) (m : Int) : Option (List UInt8 × List UInt8) :=
  (dec l).bind fun p => if p.1 < 0 ∨ p.1 > m ∨ p.1 > (p.2.length : Int) then none else some (p.2.take p.1.toNat, p.2.drop p.1.toNat)
def textR : Option (List UInt8 × List UInt8) → ByteArray × ByteArray × Int
  | some (a, b) => (bs a, bs b, 0)
  | none => (bs [], bs [], 2)
theorem text_core (l : List UInt8) (m : Int) : (if (takeR (dec l)).2.2 = 0 then (if (takeR (dec l)).1 < 0 then (some ((⟨#[]⟩ : ByteArray), (⟨#[]⟩ : ByteArray), (2 : Int))) else (if (takeR (dec l)).1 > m then (some ((⟨#[]⟩ : ByteArray), (⟨#[]⟩ : ByteArray), 2)) else (if (takeR (dec l)).1 > ((takeR (dec l)).2.1.size : Int) then (some ((⟨#[]⟩ : ByteArray), (⟨#[]⟩ : ByteArray), 2)) else (if 0 ≤ (takeR (dec l)).1 then (if (takeR (dec l)).1 ≤ ((takeR (dec l)).2.1.size : Int) then (some ((takeR (dec l)).2.1.extract 0 ((takeR (dec l)).1 : Int).toNat, (takeR (dec l)).2.1.extract ((takeR (dec l)).1 : Int).toNat (takeR (dec l)).2.1.size, 0)) else (none)) else (none))))) else (some ((⟨#[]⟩ : ByteArray), (⟨#[]⟩ : ByteArray), 2))) = some (textR (ttext l m)) := by
  unfold ttext
  cases dec l with
  | none => rfl
  | some p =>
    obtain ⟨n, r⟩ := p
    rw [takeR_1, takeR_2, takeR_3, Option.bind_some, size_bs, if_pos rfl]
    show _ = some (textR (if n < 0 ∨ n > m ∨ n > (r.length : Int) then none else some (r.take n.toNat, r.drop n.toNat)))
    by_cases h1 : n < 0
    · rw [if_pos h1, if_pos (.inl h1)]; rfl
    · rw [if_neg h1]
      by_cases h2 : n > m
      · rw [if_pos h2, if_pos (.inr (.inl h2))]; rfl
      · rw [if_neg h2]
        by_cases h3 : n > (r.length : Int)
        · rw [if_pos h3, if_pos (.inr (.inr h3))]; rfl
        · rw [if_neg h3, if_pos (by omega), if_pos (by omega), if_neg (by omega), extract_bs, extract_bs, List.drop_zero, Nat.sub_zero, List.take_of_length_le (l := r.drop n.toNat) (by simp)]
          rfl
theorem takeText_eq (l : List UInt8) (h : l.length ≤ 9223372036854775800) (m : Int) : varint_TakeText.f (bs l) m = some (textR (ttext l m)) := by
  unfold varint_TakeText.f
  rw [take_eq l (by omega), Option.bind_some]
  exact text_core l m
def ptext (l : List UInt8) : List UInt8 := enc (l.length : Int) ++ l
theorem ptext_len (l : List UInt8) : (ptext l).length ≤ l.length + 10 := by have := (enc_len (l.length : Int)).2; unfold ptext; rw [List.length_append]; omega
theorem putText_eq (l : List UInt8) (h : l.length ≤ 9223372036854775000) : varint_PutText.f (bs l) = some (bs (ptext l)) := by
  have := (enc_len (l.length : Int)).2
  unfold varint_PutText.f ptext
  rw [size_bs, put_eq (len_i64 (by omega)), Option.bind_some, if_pos (by rw [size_bs]; omega), append_bs]
theorem ttext_ptext (l r : List UInt8) (h : l.length ≤ 9223372036854775000) (m : Int) (hm : (l.length : Int) ≤ m) : ttext (ptext l ++ r) m = some (l, r) := by
  unfold ttext ptext
  rw [List.append_assoc, dec_enc (len_i64 (by omega)), Option.bind_some]
  simp only
  rw [if_neg (by rw [List.length_append]; omega), Int.toNat_natCast, List.take_left, List.drop_left]
/-- What is a text's with which bytes begin: they are its bytes, and what is behind it. -/
theorem ttext_some {l a b : List UInt8} {m : Int} (h : ttext l m = some (a, b)) : l = ptext a ++ b ∧ (a.length : Int) ≤ m := by
  unfold ttext at h
  cases hd : dec l with
  | none => rw [hd] at h; cases h
  | some p =>
    obtain ⟨n, r⟩ := p
    rw [hd, Option.bind_some] at h
    simp only at h
    split at h
    · cases h
    · rename_i hc
      simp only [Option.some.injEq, Prod.mk.injEq] at h
      obtain ⟨rfl, rfl⟩ := h
      obtain ⟨rfl, hn⟩ := (dec_iff _ _ _).1 hd
      have hl : ((r.take n.toNat).length : Int) = n := by rw [List.length_take]; omega
      unfold ptext
      rw [hl, List.append_assoc, List.take_append_drop]
      exact ⟨rfl, by omega⟩
/-- So many numbers, with which bytes begin. -/
def decN : Nat → List UInt8 → Option (List Int × List UInt8)
  | 0, l => some ([], l)
  | n + 1, l => (dec l).bind fun p => (decN n p.2).map fun q => (p.1 :: q.1, q.2)
def allR : Option (List Int × List UInt8) → List Int × ByteArray × Int
  | some (a, b) => (a, bs b, 0)
  | none => ([], bs [], 2)
/-- What TakeAll tells. -/
def takeAllR (l : List UInt8) (n : Int) : List Int × ByteArray × Int := if n < 0 ∨ n > 64 then ([], bs [], 1) else allR (decN n.toNat l)
theorem takeAll_l0 (d : Nat) : ∀ (l : List UInt8) (acc : List Int) (n i : Int) (k : Nat), l.length ≤ 9223372036854775800 → 0 ≤ i → i ≤ n → n ≤ 64 → n - i = d → d < k → acc.length ≤ 64 - d →
    varint_TakeAll.l0 k (bs l) acc n i = some (allR ((decN d l).map fun q => (acc ++ q.1, q.2))) := by
  induction d with
  | zero =>
    intro l acc n i k hl h0 h1 h64 hd hk ha
    obtain ⟨k, rfl⟩ : ∃ m, k = m + 1 := ⟨k - 1, by omega⟩
    rw [varint_TakeAll.l0, if_neg (by omega)]
    simp [decN, allR]
  | succ d ih =>
    intro l acc n i k hl h0 h1 h64 hd hk ha
    obtain ⟨k, rfl⟩ : ∃ m, k = m + 1 := ⟨k - 1, by omega⟩
    rw [varint_TakeAll.l0, if_pos (by omega), take_eq l (by omega), Option.bind_some]
    cases hdc : dec l with
    | none =>
      rw [takeR_n3, if_neg (by decide)]
      simp only [decN, hdc]
      rfl
    | some p =>
      obtain ⟨x, r⟩ := p
      have hr := (dec_iff _ _ _).1 hdc
      have hrl : r.length ≤ l.length := by rw [hr.1, List.length_append]; omega
      rw [takeR_1, takeR_2, takeR_3, if_pos rfl, if_pos (by omega), w64 (by omega) (by omega), ih r (acc ++ [x]) n (i + 1) k (by omega) (by omega) (by omega) h64 (by omega) (by omega) (by rw [List.length_append, List.length_singleton]; omega)]
      simp only [decN, hdc, Option.bind_some, Option.map_map]
      congr 2
      cases decN d r <;> simp
theorem takeAll_eq (l : List UInt8) (hl : l.length ≤ 9223372036854775800) (n : Int) (k : Nat) (hk : 200 ≤ k) : varint_TakeAll.f k (bs l) n = some (takeAllR l n) := by
  obtain ⟨k, rfl⟩ : ∃ m, k = m + 1 := ⟨k - 1, by omega⟩
  unfold varint_TakeAll.f takeAllR
  rw [varint_TakeAll.j0, if_pos rfl, varint_TakeAll.j0]
  by_cases h0 : n < 0
  · rw [if_pos h0, if_pos (.inl h0)]; rfl
  · rw [if_neg h0]
    by_cases h1 : n > 64
    · rw [if_pos (decide_eq_true h1), if_pos (.inr h1)]; rfl
    · rw [if_neg (by rw [decide_eq_true_eq]; exact h1), if_neg (by omega), takeAll_l0 n.toNat l [] n 0 k hl (by omega) (by omega) (by omega) (by omega) (by omega) (by simp)]
      congr 2
      cases decN n.toNat l <;> simp
theorem putAll_eq (l : List Int) (hl : l.length ≤ 1099511627776) (h : ∀ x ∈ l, I64 x) : varint_PutAll.f l = some (bs (l.flatMap enc)) := if_pos ⟨hl, h⟩
end Go.Proofs.Ytgfmbddkefjchaa.Vp
set_option linter.unusedVariables false
set_option linter.unusedSimpArgs false
namespace Go.Proofs.Ytgfmbddkefjchaa.Fr
open Go.Proofs.Ytgfmbddkefjchaa.Vm Go.Proofs.Ytgfmbddkefjchaa.Vp Go.Proofs.Ytgfmbddkefjchaa.Ck
/-- A text with its check sum behind it. -/
def sealT (l : List UInt8) : List UInt8 := l ++ b4 (sum l)
theorem b4_len (c : Nat) : (b4 c).length = 4 := rfl
theorem sealT_len (l : List UInt8) : (sealT l).length = l.length + 4 := by unfold sealT; rw [List.length_append, b4_len]
structure E where
  base : Int
  n : Int
  text : List UInt8
def may (x : E) : Prop := 0 ≤ x.base ∧ x.base ≤ 1099511627776 ∧ 1 ≤ x.n ∧ x.n ≤ 64 ∧ x.text.length ≤ 65536
instance (x : E) : Decidable (may x) := by unfold may; infer_instance
def body (x : E) : List UInt8 := enc x.base ++ enc x.n ++ x.text
/-- The frame. -/
def fr (x : E) : List UInt8 := sealT (ptext (body x))
theorem body_len (x : E) : 2 ≤ (body x).length ∧ (body x).length ≤ x.text.length + 20 := by
  have := enc_len x.base; have := enc_len x.n
  unfold body
  rw [List.length_append, List.length_append]; omega
theorem ptext_len (l : List UInt8) : l.length + 1 ≤ (ptext l).length ∧ (ptext l).length ≤ l.length + 10 := by
  have := enc_len (l.length : Int)
  unfold ptext
  rw [List.length_append]; omega
theorem fr_len (x : E) : 7 ≤ (fr x).length ∧ (fr x).length ≤ x.text.length + 34 := by
  have := body_len x; have := ptext_len (body x)
  unfold fr
  rw [sealT_len]; omega
/-- What stands behind the text: is it its check sum? -/
def sealed (l : List UInt8) : Bool := decide (4 ≤ l.length) && decide (b4 (sum (l.take (l.length - 4))) = l.drop (l.length - 4))
theorem sealed_sealT (l : List UInt8) : sealed (sealT l) = true := by
  unfold sealed
  rw [sealT_len, Nat.add_sub_cancel, Bool.and_eq_true, decide_eq_true_eq, decide_eq_true_eq]
  unfold sealT
  rw [List.take_left, List.drop_left]
  exact ⟨by omega, rfl⟩
theorem of_sealed {l : List UInt8} (h : sealed l = true) : 4 ≤ l.length ∧ l = sealT (l.take (l.length - 4)) := by
  unfold sealed at h
  rw [Bool.and_eq_true, decide_eq_true_eq, decide_eq_true_eq] at h
  refine ⟨h.1, ?_⟩
  unfold sealT
  rw [h.2, List.take_append_drop]
/-- What a frame's body tells. -/
def inside (b : List UInt8) : Option E := (dec b).bind fun p => (dec p.2).bind fun q => if may ⟨p.1, q.1, q.2⟩ then some ⟨p.1, q.1, q.2⟩ else none
/-- The entry whose frame stands ahead, and what is behind it. -/
def takeF (s : List UInt8) : Option (E × List UInt8) := (ttext s 131072).bind fun p => if p.2.length < 4 then none else if sealed (s.take (s.length - p.2.length + 4)) = true then (inside p.1).map fun x => (x, p.2.drop 4) else none
theorem inside_some {b : List UInt8} {x : E} (h : inside b = some x) : b = body x ∧ may x := by
  unfold inside at h
  obtain ⟨p, hp, h⟩ := Option.bind_eq_some_iff.1 h
  obtain ⟨q, hq, h⟩ := Option.bind_eq_some_iff.1 h
  split at h
  · rename_i hm
    injection h with h
    subst h
    obtain ⟨h1, -⟩ := (dec_iff b p.1 p.2).1 hp
    obtain ⟨h2, -⟩ := (dec_iff p.2 q.1 q.2).1 hq
    refine ⟨?_, hm⟩
    unfold body
    rw [List.append_assoc, ← h2, ← h1]
  · cases h
theorem i64_of_may {x : E} (h : may x) : I64 x.base ∧ I64 x.n := by unfold may at h; unfold I64; omega
theorem inside_body {x : E} (h : may x) : inside (body x) = some x := by
  obtain ⟨h1, h2⟩ := i64_of_may h
  unfold inside body
  rw [List.append_assoc, dec_enc h1, Option.bind_some]
  dsimp only
  rw [dec_enc h2, Option.bind_some, if_pos h]
theorem take_of_app {a b s : List UInt8} (h : s = a ++ b) : s.take (s.length - b.length + 4) = a ++ b.take 4 := by
  subst h
  rw [List.length_append, Nat.add_sub_cancel, List.take_append, List.take_of_length_le (by omega), Nat.add_sub_cancel_left]
theorem takeF_iff (s : List UInt8) (hs : s.length ≤ 9223372036854775000) (x : E) (r : List UInt8) : takeF s = some (x, r) ↔ s = fr x ++ r ∧ may x := by
  constructor
  · intro h
    unfold takeF at h
    obtain ⟨⟨b, t⟩, hp, h⟩ := Option.bind_eq_some_iff.1 h
    obtain ⟨h1, h2⟩ := ttext_some hp
    dsimp only at h
    split at h
    · cases h
    rename_i h4
    split at h
    case isFalse => cases h
    rename_i hse
    obtain ⟨y, hy, he⟩ := Option.map_eq_some_iff.1 h
    injection he with e1 e2
    subst e1
    obtain ⟨hb, hm⟩ := inside_some hy
    obtain ⟨_, h5⟩ := of_sealed hse
    rw [take_of_app h1] at h5
    have hl : (ptext b ++ t.take 4).length - 4 = (ptext b).length := by rw [List.length_append, List.length_take]; omega
    rw [hl, List.take_left, hb] at h5
    refine ⟨?_, hm⟩
    unfold fr
    rw [← h5, h1, ← e2, hb, List.append_assoc, List.take_append_drop]
  · rintro ⟨rfl, hm⟩
    have hb := body_len x
    have hm2 := hm
    unfold may at hm2
    unfold takeF
    have e : fr x ++ r = ptext (body x) ++ (b4 (sum (ptext (body x))) ++ r) := by unfold fr sealT; rw [List.append_assoc]
    have h4 : (b4 (sum (ptext (body x))) ++ r).take 4 = b4 (sum (ptext (body x))) := rfl
    rw [e, ttext_ptext _ _ (by omega) _ (by omega), Option.bind_some]
    dsimp only
    rw [if_neg (by rw [List.length_append, b4_len]; omega), take_of_app rfl, h4]
    have := sealed_sealT (ptext (body x))
    unfold sealT at this
    rw [if_pos this, inside_body hm]
    rfl
theorem takeF_fr {x : E} (h : may x) (r : List UInt8) (hr : r.length ≤ 9000000000000000000) : takeF (fr x ++ r) = some (x, r) := by
  refine (takeF_iff _ ?_ _ _).2 ⟨rfl, h⟩
  have := fr_len x
  unfold may at h
  rw [List.length_append]; omega
theorem takeF_len {s : List UInt8} (hs : s.length ≤ 9223372036854775000) {x : E} {r : List UInt8} (h : takeF s = some (x, r)) : r.length + 7 ≤ s.length := by
  obtain ⟨rfl, _⟩ := (takeF_iff s hs x r).1 h
  have := fr_len x
  rw [List.length_append]; omega
/-- As far as the frames go; with how many bytes each has. -/
def rowF : Nat → List UInt8 → List (E × Nat)
  | 0, _ => []
  | k + 1, s => match takeF s with
    | some (x, r) => (x, s.length - r.length) :: rowF k r
    | none => []
def sumN (l : List (E × Nat)) : Nat := (l.map (·.2)).sum
theorem sumN_cons (p : E × Nat) (l : List (E × Nat)) : sumN (p :: l) = p.2 + sumN l := by simp [sumN]
theorem sumN_append (l m : List (E × Nat)) : sumN (l ++ m) = sumN l + sumN m := by simp [sumN]
theorem rowF_sum : ∀ (k : Nat) (s : List UInt8), s.length ≤ 9223372036854775000 → s.length < k → sumN (rowF k s) ≤ s.length ∧ takeF (s.drop (sumN (rowF k s))) = none
  | 0, s, _, h => by omega
  | k + 1, s, hs, h1 => by
    unfold rowF
    cases h : takeF s with
    | none => exact ⟨by simp [sumN], by simpa [sumN] using h⟩
    | some p =>
      obtain ⟨x, r⟩ := p
      have hl := takeF_len hs h
      obtain ⟨e, _⟩ := (takeF_iff s hs x r).1 h
      obtain ⟨h2, h3⟩ := rowF_sum k r (by omega) (by omega)
      dsimp only
      rw [sumN_cons]
      dsimp only
      refine ⟨by omega, ?_⟩
      have : s.drop (s.length - r.length) = r := by
        rw [e, List.length_append, Nat.add_sub_cancel, List.drop_left]
      rw [← List.drop_drop, this]
      exact h3
end Go.Proofs.Ytgfmbddkefjchaa.Fr
set_option linter.unusedVariables false
set_option linter.unusedSimpArgs false
namespace Go.Proofs.Ytgfmbddkefjchaa.Fp
open Go.RowKit Go.Proofs.Ytgfmbddkefjchaa.Vm Go.Proofs.Ytgfmbddkefjchaa.Vref Go.Proofs.Ytgfmbddkefjchaa.Vp Go.Proofs.Ytgfmbddkefjchaa.Ck Go.Proofs.Ytgfmbddkefjchaa.Fr Go.Proofs.Ytgfmbddkefjchaa.P Go.Proofs.YtgfmbddkefjchaaW.PrintWords
theorem u32w (n : Int) : IntKind.u32.wrap n = n % 4294967296 := IntKind.wrap_u32 n
theorem of32 (n : Nat) (h : n < 4294967296) : (BitVec.ofInt IntKind.u32.bits (n : Int)).toNat = n := by
  rw [BitVec.toNat_ofInt]
  show (((n : Int)) % 4294967296).toNat = n
  omega
theorem xor32 (a b : Nat) (ha : a < 4294967296) (hb : b < 4294967296) : Go.bits .xor .u32 (a : Int) (b : Int) = ((a ^^^ b : Nat) : Int) := by
  have h1 : a ^^^ b < 2 ^ 32 := Nat.xor_lt_two_pow (by omega) (by omega)
  unfold Go.bits
  have h3 : ((BitVec.ofInt IntKind.u32.bits (a : Int)) ^^^ (BitVec.ofInt IntKind.u32.bits (b : Int))).toNat = a ^^^ b := by
    rw [BitVec.toNat_xor, of32 a ha, of32 b hb]
  show IntKind.u32.wrap ((((BitVec.ofInt IntKind.u32.bits (a : Int)) ^^^ (BitVec.ofInt IntKind.u32.bits (b : Int))).toNat : Nat) : Int) = _
  rw [h3, u32w]
  omega
theorem and32 (a : Nat) (ha : a < 4294967296) : Go.bits .and .u32 (a : Int) 1 = ((a % 2 : Nat) : Int) := by
  unfold Go.bits
  have h2 := of32 1 (by omega)
  have h3 : ((BitVec.ofInt IntKind.u32.bits (a : Int)) &&& (BitVec.ofInt IntKind.u32.bits (1 : Int))).toNat = a % 2 := by
    rw [BitVec.toNat_and, of32 a ha, show ((1 : Int)) = ((1 : Nat) : Int) from rfl, h2]
    exact Nat.and_two_pow_sub_one_eq_mod (n := 1) a
  show IntKind.u32.wrap ((((BitVec.ofInt IntKind.u32.bits (a : Int)) &&& (BitVec.ofInt IntKind.u32.bits (1 : Int))).toNat : Nat) : Int) = _
  rw [h3, u32w]
  omega
theorem st_split (x : Nat) : st x = if x % 2 = 1 then (x / 2) ^^^ 2197175160 else x / 2 := by
  unfold st
  rw [Nat.shiftRight_eq_div_pow, show 2 ^ 1 = 2 from rfl]
  split
  · rfl
  · rw [Nat.xor_zero]
theorem step_eq (x : Nat) (h : x < 4294967296) : crc_register_step.f (x : Int) = some ((st x : Nat) : Int) := by
  unfold crc_register_step.f
  rw [and32 x h, st_split]
  have e : (x : Int) / 2 = ((x / 2 : Nat) : Int) := by omega
  by_cases c : x % 2 = 1
  · rw [if_pos (by omega), if_pos c, e, show (2197175160 : Int) = ((2197175160 : Nat) : Int) from rfl, xor32 _ _ (by omega) (by omega)]
  · rw [if_neg (by omega), if_neg c, e]
theorem more_l1 (l : List UInt8) (n i : Int) (d : Nat) : ∀ (r j k : Nat), r < 4294967296 → 8 - j = d → j ≤ 8 → crc_More.l1 (k + d + 1) (bs l) (r : Int) n i (j : Int) = crc_More.l0 k (bs l) ((sts d r : Nat) : Int) n (wrap64 (i + 1)) := by
  induction d with
  | zero =>
    intro r j k hr hd hj
    rw [Nat.add_zero, crc_More.l1, if_neg (by omega)]
    rfl
  | succ d ih =>
    intro r j k hr hd hj
    rw [show k + (d + 1) + 1 = (k + d + 1) + 1 by omega, crc_More.l1, if_pos (by omega), step_eq r hr, Option.bind_some, w64 (by omega) (by omega), show (j : Int) + 1 = ((j + 1 : Nat) : Int) by omega, ih (st r) (j + 1) k (st_lt hr) (by omega) (by omega)]
    rfl
theorem byte_of (l : List UInt8) (i : Nat) (h : i < l.length) : bt (bs l) (i : Int) = (l[i].toNat : Int) := by
  rw [bt_bs l i h, List.getD_eq_getElem?_getD, List.getElem?_eq_getElem h]; rfl
theorem more_l0 (l : List UInt8) (hl : l.length ≤ 9000000000000000000) (d : Nat) : ∀ (r i k : Nat), r < 4294967296 → l.length - i = d → i ≤ l.length → 10 * d + 1 ≤ k → crc_More.l0 k (bs l) (r : Int) (l.length : Int) (i : Int) = some ((4294967295 - reg r (l.drop i) : Nat) : Int) := by
  induction d with
  | zero =>
    intro r i k hr hd hi hk
    obtain ⟨k, rfl⟩ : ∃ m, k = m + 1 := ⟨k - 1, by omega⟩
    rw [crc_More.l0, if_neg (by omega), List.drop_eq_nil_of_le (by omega)]
    show some (Go.bits .xor .u32 ((4294967295 : Nat) : Int) (r : Int)) = _
    rw [xor32 _ _ (by omega) hr, Nat.xor_comm, xor_ones hr]
    rfl
  | succ d ih =>
    intro r i k hr hd hi hk
    obtain ⟨k, rfl⟩ : ∃ m, k = (m + 8 + 1) + 1 := ⟨k - 10, by omega⟩
    have hlt : i < l.length := by omega
    have hc := l[i].toNat_lt
    rw [crc_More.l0, if_pos (by omega), if_pos (by omega), if_pos (by rw [size_bs]; omega), byte_of l i hlt, show ((l[i].toNat : Int) % 4294967296) = ((l[i].toNat : Nat) : Int) by omega, xor32 _ _ hr (by omega)]
    have hx : r ^^^ l[i].toNat < 4294967296 := Nat.xor_lt_two_pow (n := 32) hr (by omega)
    have := more_l1 l (l.length : Int) (i : Int) 8 (r ^^^ l[i].toNat) 0 k hx (by omega) (by omega)
    rw [show ((0 : Nat) : Int) = 0 from rfl] at this
    rw [this, w64 (by omega) (by omega), show (i : Int) + 1 = ((i + 1 : Nat) : Int) by omega, ih _ (i + 1) k (sts_lt 8 hx) (by omega) (by omega) (by omega), List.drop_eq_getElem_cons hlt]
    rfl
theorem sum_eq (l : List UInt8) (hl : l.length ≤ 9000000000000000000) (k : Nat) (hk : 10 * l.length + 1 ≤ k) : crc_Sum.f k (bs l) = some ((sum l : Nat) : Int) := by
  have h := more_l0 l hl l.length 4294967295 0 k (by omega) (by omega) (by omega) hk
  unfold crc_Sum.f crc_More.f
  rw [show Go.bits .xor .u32 4294967295 0 = ((4294967295 : Nat) : Int) from (xor32 4294967295 0 (by omega) (by omega)), size_bs]
  rw [show ((0 : Nat) : Int) = 0 from rfl] at h
  rw [h]
  rfl
theorem b4_strs (c : Nat) (h : c < 4294967296) : strOfNums ([(c : Int) % 256, ((c : Int) / 256) % 256, ((c : Int) / 65536) % 256, ((c : Int) / 16777216) % 256] : List Int) = bs (b4 c) := by
  rw [strOfNums_bs]
  simp only [List.map_cons, List.map_nil, b4]
  rw [show ((c : Int) % 256).toNat = c % 256 by omega, show ((c : Int) / 256 % 256).toNat = c / 256 % 256 by omega, show ((c : Int) / 65536 % 256).toNat = c / 65536 % 256 by omega, show ((c : Int) / 16777216 % 256).toNat = c / 16777216 % 256 by omega]
theorem seal_eq (l : List UInt8) (hl : l.length ≤ 9000000000000000000) (k : Nat) (hk : 10 * l.length + 1 ≤ k) : crc_Seal.f k (bs l) = some (bs (sealT l)) := by
  unfold crc_Seal.f
  rw [sum_eq l hl k hk, Option.bind_some, Option.bind_some, b4_strs _ (sum_lt l), if_pos (by rw [size_bs, size_bs, b4_len]; omega), append_bs]
  rfl
theorem unseal_eq (l : List UInt8) (hl : l.length ≤ 9000000000000000000) (k : Nat) (hk : 10 * l.length + 1 ≤ k) : crc_Unseal.f k (bs l) = some (if sealed l = true then (bs (l.take (l.length - 4)), 0) else (bs [], 2)) := by
  unfold crc_Unseal.f
  rw [size_bs, w64 (by omega) (by omega)]
  by_cases c : 4 ≤ l.length
  · rw [if_pos (by omega), if_pos (by omega), if_pos (by omega), extract_bs, List.drop_zero, show ((l.length : Int) - 4).toNat - 0 = l.length - 4 by omega, seal_eq _ (by rw [List.length_take]; omega) k (by rw [List.length_take]; omega), Option.bind_some, toList_bs, toList_bs]
    by_cases h : sealed l = true
    · rw [if_pos h, if_pos (of_sealed h).2.symm]
    · rw [if_neg h, if_neg ?_]
      · rfl
      · intro e
        apply h
        rw [← e]
        exact sealed_sealT _
  · rw [if_neg (by omega), if_neg ?_]
    · rfl
    · intro h
      exact c (of_sealed h).1
theorem check_eq (x : E) : frame_Check.f x.base x.n (bs x.text) = some (if may x then 0 else 1) := by
  unfold frame_Check.f
  rw [size_bs]
  by_cases h1 : x.base < 0
  · rw [if_pos h1, if_neg (by unfold may; omega)]
  · rw [if_neg h1]
    by_cases h2 : x.base > 1099511627776
    · rw [if_pos h2, if_neg (by unfold may; omega)]
    · rw [if_neg h2]
      by_cases h3 : x.n < 1
      · rw [if_pos h3, if_neg (by unfold may; omega)]
      · rw [if_neg h3]
        by_cases h4 : x.n > 64
        · rw [if_pos h4, if_neg (by unfold may; omega)]
        · rw [if_neg h4]
          by_cases h5 : (x.text.length : Int) > 65536
          · rw [if_pos h5, if_neg (by unfold may; omega)]
          · rw [if_neg h5, if_pos (by unfold may; omega)]
def layR (x : E) : ByteArray × Int := if may x then (bs (fr x), 0) else (bs [], 1)
theorem lay_eq (x : E) (k : Nat) (hk : 1000000 ≤ k) : frame_Lay.f k x.base x.n (bs x.text) = some (layR x) := by
  unfold frame_Lay.f layR
  rw [check_eq, Option.bind_some]
  by_cases h : may x
  · obtain ⟨i1, i2⟩ := i64_of_may h
    have hb := body_len x
    have hp := Fr.ptext_len (body x)
    have hm := h
    unfold may at hm
    have e1 := enc_len x.base
    have e2 := enc_len x.n
    have e : (([x.base, x.n] : List Int).flatMap enc) = enc x.base ++ enc x.n := by simp
    rw [if_pos h, if_pos h, if_pos rfl, putAll_eq _ (by simp) (fun y hy => by rcases List.mem_cons.1 hy with rfl | hy; exact i1; rcases List.mem_cons.1 hy with rfl | hy; exact i2; cases hy), Option.bind_some, e, if_pos (by rw [size_bs, size_bs, List.length_append]; omega), append_bs]
    show ((varint_PutText.f (bs (body x))).bind _) = _
    rw [putText_eq _ (by omega), Option.bind_some, seal_eq _ (by omega) k (by omega), Option.bind_some]
    rfl
  · rw [if_neg h, if_neg h, if_neg (by decide)]
    rfl
def takeFR : Option (E × List UInt8) → Int × Int × ByteArray × ByteArray × Int
  | some (x, r) => (x.base, x.n, bs x.text, bs r, 0)
  | none => (0, 0, bs [], bs [], 2)
theorem tR1 (x : E) (r : List UInt8) : (takeFR (some (x, r))).1 = x.base := rfl
theorem tR2 (x : E) (r : List UInt8) : (takeFR (some (x, r))).2.1 = x.n := rfl
theorem tR3 (x : E) (r : List UInt8) : (takeFR (some (x, r))).2.2.1 = bs x.text := rfl
theorem tR4 (x : E) (r : List UInt8) : (takeFR (some (x, r))).2.2.2.1 = bs r := rfl
theorem tR5 (x : E) (r : List UInt8) : (takeFR (some (x, r))).2.2.2.2 = 0 := rfl
theorem tN5 : (takeFR none).2.2.2.2 = 2 := rfl
theorem allR_s1 (a : List Int) (b : List UInt8) : (allR (some (a, b))).1 = a := rfl
theorem allR_s2 (a : List Int) (b : List UInt8) : (allR (some (a, b))).2.1 = bs b := rfl
theorem allR_s3 (a : List Int) (b : List UInt8) : (allR (some (a, b))).2.2 = 0 := rfl
theorem allR_n3 : (allR none).2.2 = 2 := rfl
theorem textR_1 (a b : List UInt8) : (textR (some (a, b))).1 = bs a := rfl
theorem takeAllR_2 (b : List UInt8) : takeAllR b 2 = allR ((dec b).bind fun p => (dec p.2).bind fun q => some ([p.1, q.1], q.2)) := by
  unfold takeAllR
  rw [if_neg (by omega)]
  show allR (decN 2 b) = _
  unfold decN decN decN
  cases dec b with
  | none => rfl
  | some p =>
    rw [Option.bind_some, Option.bind_some]
    cases dec p.2 with
    | none => rfl
    | some q => rfl
theorem take_all (s : List UInt8) (hs : s.length ≤ 9000000000000000) (k : Nat) (hk : 10 * s.length + 1000 ≤ k) : frame_Take.f k (bs s) = some (takeFR (takeF s)) := by
  obtain ⟨k, rfl⟩ : ∃ m, k = m + 1 := ⟨k - 1, by omega⟩
  unfold frame_Take.f takeF
  rw [takeText_eq s (by omega), Option.bind_some]
  cases ht : ttext s 131072 with
  | none =>
    show (if (2 : Int) = 0 then _ else _) = _
    rw [if_neg (by decide), frame_Take.j0, if_pos rfl]
    rfl
  | some p =>
    obtain ⟨b, rest⟩ := p
    obtain ⟨h1, h2⟩ := ttext_some ht
    have hp := Fr.ptext_len b
    have hl : s.length = (ptext b).length + rest.length := by rw [h1, List.length_append]
    show (if (0 : Int) = 0 then frame_Take.j0 (k + 1) (bs s) (bs rest) (decide (((bs rest).size : Int) < 4)) else _) = _
    rw [if_pos rfl, size_bs, Option.bind_some]
    dsimp only
    by_cases c : rest.length < 4
    · rw [if_pos c, decide_eq_true (by omega), frame_Take.j0, if_pos rfl]
      rfl
    · rw [if_neg c, decide_eq_false (by omega), frame_Take.j0, if_neg (by decide), size_bs, size_bs, w64 (x := (s.length : Int) - (rest.length : Int)) (by omega) (by omega), w64 (by omega) (by omega), if_pos (by omega), if_pos (by omega), extract_bs, List.drop_zero, show ((s.length : Int) - (rest.length : Int) + 4).toNat - 0 = s.length - rest.length + 4 by omega]
      have hwl : (s.take (s.length - rest.length + 4)).length = (ptext b).length + 4 := by rw [List.length_take]; omega
      rw [unseal_eq _ (by omega) k (by omega), Option.bind_some]
      by_cases hse : sealed (s.take (s.length - rest.length + 4)) = true
      · rw [if_pos hse, if_pos hse]
        dsimp only
        have hw : (s.take (s.length - rest.length + 4)).take ((s.take (s.length - rest.length + 4)).length - 4) = ptext b := by
          rw [hwl, Nat.add_sub_cancel, List.take_take, Nat.min_eq_left (by omega), h1, List.take_left]
        have htt := ttext_ptext b [] (by omega) ((ptext b).length : Int) (by omega)
        rw [List.append_nil] at htt
        rw [if_pos rfl, hw, size_bs, takeText_eq _ (by omega), htt, Option.bind_some]
        rw [textR_1, takeAll_eq b (by omega) 2 k (by omega), Option.bind_some, takeAllR_2]
        unfold inside
        cases hd : dec b with
        | none =>
          rw [Option.bind_none, Option.bind_none]
          rw [allR_n3, if_neg (show ¬ (2 : Int) = 0 by decide)]
          rfl
        | some p =>
          rw [Option.bind_some, Option.bind_some]
          cases hq : dec p.2 with
          | none =>
            rw [Option.bind_none, Option.bind_none]
            rw [allR_n3, if_neg (show ¬ (2 : Int) = 0 by decide)]
            rfl
          | some q =>
            rw [Option.bind_some, Option.bind_some]
            rw [allR_s3, allR_s1, allR_s2, if_pos rfl, if_pos (by simp), if_pos (by simp), show rd [p.1, q.1] 0 = p.1 from rfl, show rd [p.1, q.1] 1 = q.1 from rfl]
            have := check_eq ⟨p.1, q.1, q.2⟩
            dsimp only at this
            rw [this, Option.bind_some]
            by_cases hm : may ⟨p.1, q.1, q.2⟩
            · rw [if_pos hm, if_pos hm, if_pos rfl, if_pos (by omega), extract_bs, List.take_of_length_le (by rw [List.length_drop]; exact Nat.le_refl _)]
              rfl
            · rw [if_neg hm, if_neg hm, if_neg (by decide)]
              rfl
      · rw [if_neg hse, if_neg hse]
        dsimp only
        rw [if_neg (by decide)]
        rfl
theorem awake_eq (k : Nat) (hk : 2000000 ≤ k) : headgatelaw03_awake.f k = some true := by
  have hm : may ⟨0, 1, [97]⟩ := by unfold may; simp
  have h1 := lay_eq ⟨0, 1, [97]⟩ k (by omega)
  have hl : (fr ⟨0, 1, [97]⟩).length = 8 := by
    have e : body ⟨0, 1, [97]⟩ = [0, 2, 97] := by decide
    unfold fr
    rw [e, sealT_len, show ptext [0, 2, 97] = [6, 0, 2, 97] by decide]
    rfl
  have ht : (fr ⟨0, 1, [97]⟩).take 4 = [6, 0, 2, 97] := by
    have e : body ⟨0, 1, [97]⟩ = [0, 2, 97] := by decide
    unfold fr
    rw [e, show ptext [0, 2, 97] = [6, 0, 2, 97] by decide]
    rfl
  have h2 := take_all (fr ⟨0, 1, [97]⟩ ++ [98]) (by rw [List.length_append, hl]; simp) k (by rw [List.length_append, hl]; simp; omega)
  rw [takeF_fr hm [98] (by simp)] at h2
  unfold layR at h1
  rw [if_pos hm] at h1
  dsimp only at h1
  unfold headgatelaw03_awake.f
  rw [show ((⟨#[97]⟩ : ByteArray)) = bs [97] from rfl, h1, Option.bind_some]
  dsimp only
  rw [if_pos (by rw [size_bs, hl]; omega), show ((⟨#[98]⟩ : ByteArray)) = bs [98] from rfl, append_bs, h2, Option.bind_some, size_bs, hl]
  rw [if_pos (by decide), if_pos (by decide), if_pos (by decide), extract_bs, List.drop_zero, toList_bs, show (4 : Nat) - 0 = 4 from rfl, ht, if_pos rfl, if_pos rfl, tR1, tR2, tR3, tR4, tR5, toList_bs, toList_bs, if_pos (by decide), if_pos rfl]
  rfl
end Go.Proofs.Ytgfmbddkefjchaa.Fp
set_option linter.unusedVariables false
set_option linter.unusedSimpArgs false
namespace Go.Proofs.Ytgfmbddkefjchaa.Fw
open Go.RowKit Go.Proofs.Ytgfmbddkefjchaa.Vm Go.Proofs.Ytgfmbddkefjchaa.Vref Go.Proofs.Ytgfmbddkefjchaa.Vp Go.Proofs.Ytgfmbddkefjchaa.Ck Go.Proofs.Ytgfmbddkefjchaa.Fr Go.Proofs.Ytgfmbddkefjchaa.Fp Go.Proofs.Ytgfmbddkefjchaa.P Go.Proofs.YtgfmbddkefjchaaW.PrintWords
def toS (x : E) : S23 := ⟨x.base, x.n, bs x.text⟩
def toP (p : E × Nat) : Int × S23 := ((p.2 : Int), toS p.1)
theorem rowF_zero (s : List UInt8) : rowF 0 s = [] := rfl
theorem rowF_some {s : List UInt8} {x : E} {r : List UInt8} (h : takeF s = some (x, r)) (m : Nat) : rowF (m + 1) s = (x, s.length - r.length) :: rowF m r := by
  show (match takeF s with | some (x, r) => (x, s.length - r.length) :: rowF m r | none => []) = _
  rw [h]
theorem rowF_none {s : List UInt8} (h : takeF s = none) (m : Nat) : rowF (m + 1) s = [] := by
  show (match takeF s with | some (x, r) => (x, s.length - r.length) :: rowF m r | none => []) = _
  rw [h]
theorem go_eq (k : Nat) : ∀ (m : Nat) (s : List UInt8), s.length < m → s.length ≤ 1000000 → 10 * s.length + 1000 ≤ k → frame_Row.go k m (bs s) = some ((rowF m s).map toP)
  | 0, s, h, _, _ => by omega
  | m + 1, s, h, hs, hk => by
    show ((frame_Take.f k (bs s)).bind _) = _
    rw [take_all s (by omega) k hk, Option.bind_some]
    cases ht : takeF s with
    | none =>
      rw [rowF_none ht, tN5, if_neg (by decide)]
      rfl
    | some p =>
      obtain ⟨x, r⟩ := p
      have hl := takeF_len (by omega) ht
      rw [rowF_some ht, tR1, tR2, tR3, tR4, tR5, if_pos rfl, size_bs, size_bs, if_pos (by omega), go_eq k m r (by omega) (by omega) (by omega), Option.bind_some, w64 (by omega) (by omega), List.map_cons]
      congr 2
      show ((s.length : Int) - (r.length : Int), _) = (((s.length - r.length : Nat) : Int), _)
      rw [show ((s.length : Int) - (r.length : Int)) = ((s.length - r.length : Nat) : Int) by omega]
      rfl
theorem sum_from : ∀ (l : List (E × Nat)) (a : Nat), a + sumN l ≤ 1000000000000 → (l.map toP).foldl (fun a x => wrap64 (a + x.1)) (a : Int) = ((a + sumN l : Nat) : Int)
  | [], a, _ => rfl
  | p :: l, a, h => by
    rw [sumN_cons] at h
    rw [List.map_cons, List.foldl_cons, sumN_cons]
    have e : wrap64 ((a : Int) + (toP p).1) = ((a + p.2 : Nat) : Int) := by
      show wrap64 ((a : Int) + (p.2 : Int)) = _
      rw [w64 (by omega) (by omega)]; omega
    rw [e, sum_from l (a + p.2) (by omega), Nat.add_assoc]
theorem rowF_long : ∀ (m : Nat) (s : List UInt8), s.length ≤ 1000000000 → (rowF m s).length ≤ s.length
  | 0, s, _ => by simp [rowF]
  | m + 1, s, hs => by
    cases ht : takeF s with
    | none => rw [rowF_none ht]; simp
    | some p =>
      obtain ⟨x, r⟩ := p
      have hl := takeF_len (by omega) ht
      have := rowF_long m r (by omega)
      rw [rowF_some ht, List.length_cons]; omega
end Go.Proofs.Ytgfmbddkefjchaa.Fw
set_option linter.unusedVariables false
namespace Go.Proofs.Ytgfmbddkefjchaa.Pure
open Go.RowKit Go.Proofs.Ytgfmbddkefjchaa.Vm Go.Proofs.Ytgfmbddkefjchaa.Vref Go.Proofs.Ytgfmbddkefjchaa.Vp Go.Proofs.Ytgfmbddkefjchaa.Ck Go.Proofs.Ytgfmbddkefjchaa.Fr Go.Proofs.Ytgfmbddkefjchaa.Fp Go.Proofs.Ytgfmbddkefjchaa.Fw Go.Proofs.Ytgfmbddkefjchaa.P Go.Proofs.YtgfmbddkefjchaaW.PrintWords
theorem rowF_pos : ∀ (m : Nat) (s : List UInt8), s.length ≤ 1000000000 → ∀ p ∈ rowF m s, 1 ≤ p.2
  | 0, s, _ => by intro p hp; rw [rowF_zero] at hp; cases hp
  | m + 1, s, hs => by
    intro p hp
    cases ht : takeF s with
    | none => rw [rowF_none ht] at hp; cases hp
    | some q =>
      obtain ⟨x, r⟩ := q
      have hl := takeF_len (by omega) ht
      rw [rowF_some ht] at hp
      rcases List.mem_cons.1 hp with rfl | hp
      · show 1 ≤ s.length - r.length; omega
      · exact rowF_pos m r (by omega) p hp
theorem sum_is (l : List (E × Nat)) (h : sumN l ≤ 1000000000000) : frame_Row.sum (l.map toP) = ((sumN l : Nat) : Int) := by
  have h3 := sum_from l 0 (by omega)
  unfold frame_Row.sum
  rw [Nat.zero_add, show ((0 : Nat) : Int) = 0 from rfl] at h3
  exact h3
theorem sum_less (L : List (E × Nat)) (hp : ∀ p ∈ L, 1 ≤ p.2) (h : sumN L ≤ 1000000000000) (pre : List (Int × S23)) (h1 : pre <+: L.map toP) (h2 : pre.length < (L.map toP).length) : frame_Row.sum pre < frame_Row.sum (L.map toP) := by
  rw [List.length_map] at h2
  have e : pre = (L.take pre.length).map toP := by rw [List.map_take]; exact List.prefix_iff_eq_take.1 h1
  have hs : sumN L = sumN (L.take pre.length) + sumN (L.drop pre.length) := by rw [← sumN_append, List.take_append_drop]
  have hd : 1 ≤ sumN (L.drop pre.length) := by
    rw [List.drop_eq_getElem_cons h2, sumN_cons]
    have := hp _ (List.getElem_mem h2)
    omega
  generalize pre.length = n at e hs hd
  rw [e, sum_is _ (by omega), sum_is _ h]
  omega
theorem cut_bs (l : List UInt8) : ∃ t, headgatelaw03_FrameEach.cut (bs l) = bs t ∧ t.length ≤ 100000 := by
  unfold headgatelaw03_FrameEach.cut
  by_cases c : ((bs l).size : Int) ≤ 100000
  · rw [size_bs] at c
    exact ⟨l, if_pos (by rw [size_bs]; exact c), by omega⟩
  · exact ⟨(l.drop 0).take (100000 - 0), by rw [if_neg c, extract_bs], by rw [List.length_take]; omega⟩
theorem FrameEach : headgatelaw03_FrameEach.Pure := by
  intro s stop hs _
  obtain ⟨l, rfl⟩ := bs_of s
  obtain ⟨t, ht, hl⟩ := cut_bs l
  have h1 := rowF_long 4000001 t (by omega)
  have h2 := (rowF_sum 4000001 t (by omega) (by omega)).1
  have h3 := rowF_pos 4000001 t (by omega)
  refine ⟨4000001, (rowF 4000001 t).map toP, awake_eq _ (by omega), ?_, by rw [List.length_map]; omega, ?_, ?_⟩
  · rw [ht]
    exact go_eq 4000001 4000001 t (by omega) (by omega) (by omega)
  · intro x hx
    obtain ⟨p, hp, rfl⟩ := List.mem_map.1 hx
    have := h3 p hp
    show 1 ≤ ((p.2 : Nat) : Int)
    omega
  · exact sum_less _ h3 (by omega)
end Go.Proofs.Ytgfmbddkefjchaa.Pure
