/- The numbers' functions (varint, headgateref01) on lists of bytes: what each comes to. -/
import Derived.Test.YthmckblcckcaaaaPx4
import Derived.Test.YthmckblcckcaaaaPx10
import Derived.Test.YthmckblcckcaaaaPx11
import Derived.Test.YthmckblcckcaaaaPx15
import Derived.Test.YthmckblcckcaaaaPx4
import Derived.Test.YthmckblcckcaaaaPx17
import Derived.Test.YthmckblcckcaaaaPx10
import Derived.Test.YthmckblcckcaaaaPx21
import Derived.Test.YthmckblcckcaaaaPx4
import Derived.Test.YthmckblcckcaaaaVref
set_option linter.unusedVariables false
set_option linter.unusedSimpArgs false
namespace Go.Proofs.Ythmckblcckcaaaa.Vp
open Go.RowKit Go.Proofs.Ythmckblcckcaaaa.Vm Go.Proofs.Ythmckblcckcaaaa.Vref Go.Proofs.Ythmckblcckcaaaa.P Go.Proofs.YthmckblcckcaaaaW.PrintWords

theorem i64_of {n : Int} (h : (Lit.int .i64 n).wf = true) : I64 n := by
  simp only [Lit.wf, IntKind.min, IntKind.max, IntKind.signed, IntKind.bits, Bool.and_eq_true, decide_eq_true_eq, if_true] at h
  unfold I64
  omega
theorem put_eq {n : Int} (h : I64 n) : varint_Put.f n = some (bs (enc n)) := if_pos h
theorem take_eq (l : List UInt8) (h : l.length ≤ 9223372036854775807) : varint_Take.f (bs l) = some (takeR (dec l)) := by
  unfold varint_Take.f
  rw [size_bs, if_pos h, data_bs]
theorem len_i64 {l : List UInt8} (h : l.length ≤ 9223372036854775807) : I64 (l.length : Int) := by unfold I64; omega
theorem takeR_1 (n : Int) (r : List UInt8) : (takeR (some (n, r))).1 = n := rfl
theorem takeR_2 (n : Int) (r : List UInt8) : (takeR (some (n, r))).2.1 = bs r := rfl
theorem takeR_3 (n : Int) (r : List UInt8) : (takeR (some (n, r))).2.2 = 0 := rfl
theorem takeR_n3 : (takeR none).2.2 = 2 := rfl
theorem takeR_n2 : (takeR none).2.1 = bs [] := rfl
theorem takeR_n1 : (takeR none).1 = 0 := rfl
/-- A text of so many bytes at most, with which bytes begin. -/
def ttext (l : List UInt8) (m : Int) : Option (List UInt8 × List UInt8) :=
  (dec l).bind fun p => if p.1 < 0 ∨ p.1 > m ∨ p.1 > (p.2.length : Int) then none else some (p.2.take p.1.toNat, p.2.drop p.1.toNat)
def textR : Option (List UInt8 × List UInt8) → ByteArray × ByteArray × Int
  | some (a, b) => (bs a, bs b, 0)
  | none => (bs [], bs [], 2)
theorem text_core (l : List UInt8) (m : Int) : (if (takeR (dec l)).2.2 = 0 then (if (takeR (dec l)).1 < 0 then (some ((⟨#[]⟩ : ByteArray), (⟨#[]⟩ : ByteArray), (2 : Int))) else (if (takeR (dec l)).1 > m then (some ((⟨#[]⟩ : ByteArray), (⟨#[]⟩ : ByteArray), 2)) else (if (takeR (dec l)).1 > ((takeR (dec l)).2.1.size : Int) then (some ((⟨#[]⟩ : ByteArray), (⟨#[]⟩ : ByteArray), 2)) else (if 0 ≤ (takeR (dec l)).1 then (if (takeR (dec l)).1 ≤ ((takeR (dec l)).2.1.size : Int) then (some ((takeR (dec l)).2.1.extract 0 ((takeR (dec l)).1 : Int).toNat, (takeR (dec l)).2.1.extract ((takeR (dec l)).1 : Int).toNat (takeR (dec l)).2.1.size, 0)) else (none)) else (none))))) else (some ((⟨#[]⟩ : ByteArray), (⟨#[]⟩ : ByteArray), 2))) = some (textR (ttext l m)) := by
  unfold ttext
  cases dec l with
  | none => rfl
  | some p =>
    obtain ⟨n, r⟩ := p
    rw [takeR_1, takeR_2, takeR_3, Option.bind_some, size_bs, if_pos rfl]
    show _ = some (textR (if n < 0 ∨ n > m ∨ n > (r.length : Int) then none else some (r.take n.toNat, r.drop n.toNat)))
    by_cases h1 : n < 0
    · rw [if_pos h1, if_pos (.inl h1)]; rfl
    · rw [if_neg h1]
      by_cases h2 : n > m
      · rw [if_pos h2, if_pos (.inr (.inl h2))]; rfl
      · rw [if_neg h2]
        by_cases h3 : n > (r.length : Int)
        · rw [if_pos h3, if_pos (.inr (.inr h3))]; rfl
        · rw [if_neg h3, if_pos (by omega), if_pos (by omega), if_neg (by omega), extract_bs, extract_bs, List.drop_zero, Nat.sub_zero, List.take_of_length_le (l := r.drop n.toNat) (by simp)]
          rfl
theorem takeText_eq (l : List UInt8) (h : l.length ≤ 9223372036854775800) (m : Int) : varint_TakeText.f (bs l) m = some (textR (ttext l m)) := by
  unfold varint_TakeText.f
  rw [take_eq l (by omega), Option.bind_some]
  exact text_core l m
theorem rtakeText_eq (l : List UInt8) (h : l.length ≤ 9223372036854775800) (m : Int) (k : Nat) (hk : 80 ≤ k) : headgateref01_TakeText.f k (bs l) m = some (textR (ttext l m)) := by
  unfold headgateref01_TakeText.f
  rw [take_f l h k hk, Option.bind_some]
  exact text_core l m
def ptext (l : List UInt8) : List UInt8 := enc (l.length : Int) ++ l
theorem ptext_len (l : List UInt8) : (ptext l).length ≤ l.length + 10 := by have := (enc_len (l.length : Int)).2; unfold ptext; rw [List.length_append]; omega
theorem putText_eq (l : List UInt8) (h : l.length ≤ 9223372036854775000) : varint_PutText.f (bs l) = some (bs (ptext l)) := by
  have := (enc_len (l.length : Int)).2
  unfold varint_PutText.f ptext
  rw [size_bs, put_eq (len_i64 (by omega)), Option.bind_some, if_pos (by rw [size_bs]; omega), append_bs]
theorem rtext_eq (l : List UInt8) (h : l.length ≤ 9223372036854775000) (k : Nat) (hk : 12 ≤ k) : headgateref01_Text.f k (bs l) = some (bs (ptext l)) := by
  have := (enc_len (l.length : Int)).2
  unfold headgateref01_Text.f ptext
  rw [size_bs, put_f _ (len_i64 (by omega)) k hk, Option.bind_some, if_pos (by rw [size_bs]; omega), append_bs]
theorem ttext_ptext (l r : List UInt8) (h : l.length ≤ 9223372036854775000) (m : Int) (hm : (l.length : Int) ≤ m) : ttext (ptext l ++ r) m = some (l, r) := by
  unfold ttext ptext
  rw [List.append_assoc, dec_enc (len_i64 (by omega)), Option.bind_some]
  simp only
  rw [if_neg (by rw [List.length_append]; omega), Int.toNat_natCast, List.take_left, List.drop_left]
theorem ttext_short (l r : List UInt8) (h : l.length ≤ 9223372036854775000) (m : Int) (hm : m < (l.length : Int)) : ttext (ptext l ++ r) m = none := by
  unfold ttext ptext
  rw [List.append_assoc, dec_enc (len_i64 (by omega)), Option.bind_some]
  simp only
  rw [if_pos (by omega)]
/-- What is a text's with which bytes begin: they are its bytes, and what is behind it. -/
theorem ttext_some {l a b : List UInt8} {m : Int} (h : ttext l m = some (a, b)) : l = ptext a ++ b ∧ (a.length : Int) ≤ m := by
  unfold ttext at h
  cases hd : dec l with
  | none => rw [hd] at h; cases h
  | some p =>
    obtain ⟨n, r⟩ := p
    rw [hd, Option.bind_some] at h
    simp only at h
    split at h
    · cases h
    · rename_i hc
      simp only [Option.some.injEq, Prod.mk.injEq] at h
      obtain ⟨rfl, rfl⟩ := h
      obtain ⟨rfl, hn⟩ := (dec_iff _ _ _).1 hd
      have hl : ((r.take n.toNat).length : Int) = n := by rw [List.length_take]; omega
      unfold ptext
      rw [hl, List.append_assoc, List.take_append_drop]
      exact ⟨rfl, by omega⟩

/-- So many numbers, with which bytes begin. -/
def decN : Nat → List UInt8 → Option (List Int × List UInt8)
  | 0, l => some ([], l)
  | n + 1, l => (dec l).bind fun p => (decN n p.2).map fun q => (p.1 :: q.1, q.2)
theorem decN_iff (n : Nat) : ∀ (l : List UInt8) (xs : List Int) (r : List UInt8), decN n l = some (xs, r) ↔ l = xs.flatMap enc ++ r ∧ xs.length = n ∧ ∀ x ∈ xs, I64 x := by
  induction n with
  | zero =>
    intro l xs r
    simp only [decN, Option.some.injEq, Prod.mk.injEq]
    constructor
    · rintro ⟨rfl, rfl⟩; simp
    · rintro ⟨h1, h2, -⟩
      obtain rfl := List.eq_nil_of_length_eq_zero h2
      simp at h1
      exact ⟨rfl, h1⟩
  | succ n ih =>
    intro l xs r
    simp only [decN, Option.bind_eq_some_iff, Option.map_eq_some_iff, Prod.exists, Prod.mk.injEq]
    constructor
    · rintro ⟨x, l', hd, ys, r', hn, rfl, rfl⟩
      obtain ⟨rfl, hx⟩ := (dec_iff _ _ _).1 hd
      obtain ⟨rfl, hl, hall⟩ := (ih _ _ _).1 hn
      refine ⟨by simp, by simp [hl], fun y hy => ?_⟩
      rcases List.mem_cons.1 hy with rfl | hy
      · exact hx
      · exact hall y hy
    · rintro ⟨rfl, h2, h3⟩
      cases xs with
      | nil => simp at h2
      | cons x ys =>
        have hx := h3 x (List.mem_cons_self ..)
        refine ⟨x, ys.flatMap enc ++ r, ?_, ys, r, (ih _ _ _).2 ⟨rfl, by simpa using h2, fun y hy => h3 y (List.mem_cons_of_mem _ hy)⟩, rfl, rfl⟩
        rw [List.flatMap_cons, List.append_assoc]
        exact dec_enc hx _
def allR : Option (List Int × List UInt8) → List Int × ByteArray × Int
  | some (a, b) => (a, bs b, 0)
  | none => ([], bs [], 2)
/-- What TakeAll tells. -/
def takeAllR (l : List UInt8) (n : Int) : List Int × ByteArray × Int := if n < 0 ∨ n > 64 then ([], bs [], 1) else allR (decN n.toNat l)
theorem takeAll_l0 (d : Nat) : ∀ (l : List UInt8) (acc : List Int) (n i : Int) (k : Nat), l.length ≤ 9223372036854775800 → 0 ≤ i → i ≤ n → n ≤ 64 → n - i = d → d < k → acc.length ≤ 64 - d →
    varint_TakeAll.l0 k (bs l) acc n i = some (allR ((decN d l).map fun q => (acc ++ q.1, q.2))) := by
  induction d with
  | zero =>
    intro l acc n i k hl h0 h1 h64 hd hk ha
    obtain ⟨k, rfl⟩ : ∃ m, k = m + 1 := ⟨k - 1, by omega⟩
    rw [varint_TakeAll.l0, if_neg (by omega)]
    simp [decN, allR]
  | succ d ih =>
    intro l acc n i k hl h0 h1 h64 hd hk ha
    obtain ⟨k, rfl⟩ : ∃ m, k = m + 1 := ⟨k - 1, by omega⟩
    rw [varint_TakeAll.l0, if_pos (by omega), take_eq l (by omega), Option.bind_some]
    cases hdc : dec l with
    | none =>
      rw [takeR_n3, if_neg (by decide)]
      simp only [decN, hdc]
      rfl
    | some p =>
      obtain ⟨x, r⟩ := p
      have hr := (dec_iff _ _ _).1 hdc
      have hrl : r.length ≤ l.length := by rw [hr.1, List.length_append]; omega
      rw [takeR_1, takeR_2, takeR_3, if_pos rfl, if_pos (by omega), w64 (by omega) (by omega), ih r (acc ++ [x]) n (i + 1) k (by omega) (by omega) (by omega) h64 (by omega) (by omega) (by rw [List.length_append, List.length_singleton]; omega)]
      simp only [decN, hdc, Option.bind_some, Option.map_map]
      congr 2
      cases decN d r <;> simp
theorem rtakeAll_l0 (d : Nat) : ∀ (l : List UInt8) (acc : List Int) (n i : Int) (k : Nat), l.length ≤ 9223372036854775800 → 0 ≤ i → i ≤ n → n ≤ 64 → n - i = d → d + 80 < k → acc.length ≤ 64 - d →
    headgateref01_TakeAll.l0 k (bs l) n acc i = some (allR ((decN d l).map fun q => (acc ++ q.1, q.2))) := by
  induction d with
  | zero =>
    intro l acc n i k hl h0 h1 h64 hd hk ha
    obtain ⟨k, rfl⟩ : ∃ m, k = m + 1 := ⟨k - 1, by omega⟩
    rw [headgateref01_TakeAll.l0, if_neg (by omega)]
    simp [decN, allR]
  | succ d ih =>
    intro l acc n i k hl h0 h1 h64 hd hk ha
    obtain ⟨k, rfl⟩ : ∃ m, k = m + 1 := ⟨k - 1, by omega⟩
    rw [headgateref01_TakeAll.l0, if_pos (by omega), take_f l (by omega) k (by omega), Option.bind_some]
    cases hdc : dec l with
    | none =>
      rw [takeR_n3, if_neg (by decide)]
      simp only [decN, hdc]
      rfl
    | some p =>
      obtain ⟨x, r⟩ := p
      have hr := (dec_iff _ _ _).1 hdc
      have hrl : r.length ≤ l.length := by rw [hr.1, List.length_append]; omega
      rw [takeR_1, takeR_2, takeR_3, if_pos rfl, if_pos (by omega), w64 (by omega) (by omega), ih r (acc ++ [x]) n (i + 1) k (by omega) (by omega) (by omega) h64 (by omega) (by omega) (by rw [List.length_append, List.length_singleton]; omega)]
      simp only [decN, hdc, Option.bind_some, Option.map_map]
      congr 2
      cases decN d r <;> simp
theorem takeAll_eq (l : List UInt8) (hl : l.length ≤ 9223372036854775800) (n : Int) (k : Nat) (hk : 200 ≤ k) : varint_TakeAll.f k (bs l) n = some (takeAllR l n) := by
  obtain ⟨k, rfl⟩ : ∃ m, k = m + 1 := ⟨k - 1, by omega⟩
  unfold varint_TakeAll.f takeAllR
  rw [varint_TakeAll.j0, if_pos rfl, varint_TakeAll.j0]
  by_cases h0 : n < 0
  · rw [if_pos h0, if_pos (.inl h0)]; rfl
  · rw [if_neg h0]
    by_cases h1 : n > 64
    · rw [if_pos (decide_eq_true h1), if_pos (.inr h1)]; rfl
    · rw [if_neg (by rw [decide_eq_true_eq]; exact h1), if_neg (by omega), takeAll_l0 n.toNat l [] n 0 k hl (by omega) (by omega) (by omega) (by omega) (by omega) (by simp)]
      congr 2
      cases decN n.toNat l <;> simp
theorem rtakeAll_eq (l : List UInt8) (hl : l.length ≤ 9223372036854775800) (n : Int) (k : Nat) (hk : 200 ≤ k) : headgateref01_TakeAll.f k (bs l) n = some (takeAllR l n) := by
  obtain ⟨k, rfl⟩ : ∃ m, k = m + 1 := ⟨k - 1, by omega⟩
  unfold headgateref01_TakeAll.f takeAllR
  rw [headgateref01_TakeAll.j0, if_pos rfl, headgateref01_TakeAll.j0]
  by_cases h0 : n < 0
  · rw [if_pos h0, if_pos (.inl h0)]; rfl
  · rw [if_neg h0]
    by_cases h1 : n > 64
    · rw [if_pos (decide_eq_true h1), if_pos (.inr h1)]; rfl
    · rw [if_neg (by rw [decide_eq_true_eq]; exact h1), if_neg (by omega), rtakeAll_l0 n.toNat l [] n 0 k hl (by omega) (by omega) (by omega) (by omega) (by omega) (by simp)]
      congr 2
      cases decN n.toNat l <;> simp
theorem putAll_eq (l : List Int) (hl : l.length ≤ 1099511627776) (h : ∀ x ∈ l, I64 x) : varint_PutAll.f l = some (bs (l.flatMap enc)) := if_pos ⟨hl, h⟩
end Go.Proofs.Ythmckblcckcaaaa.Vp
