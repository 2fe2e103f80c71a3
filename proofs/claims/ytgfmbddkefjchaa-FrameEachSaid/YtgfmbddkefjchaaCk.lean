/- The check sum CRC-32C in plain words, and its burst theory: no program in sight. -/
set_option linter.unusedVariables false
namespace Go.Proofs.Ytgfmbddkefjchaa.Ck
/-- One bit on. -/
def st (x : Nat) : Nat := (x >>> 1) ^^^ (if x % 2 = 1 then 2197175160 else 0)
def sts : Nat → Nat → Nat
  | 0, x => x
  | n + 1, x => sts n (st x)
theorem st0 : st 0 = 0 := rfl
theorem sts0 : ∀ n, sts n 0 = 0
  | 0 => rfl
  | n + 1 => sts0 n
theorem xor_mod2 (a b : Nat) : (a ^^^ b) % 2 = (a % 2) ^^^ (b % 2) := by
  exact Nat.xor_mod_two_pow (n := 1)
theorem xor_zero {a b : Nat} (h : a ^^^ b = 0) : a = b := by
  have := congrArg (fun z => a ^^^ z) h
  simpa [← Nat.xor_assoc] using this.symm
theorem st_xor (a b : Nat) : st (a ^^^ b) = st a ^^^ st b := by
  unfold st
  rw [Nat.shiftRight_xor_distrib, xor_mod2]
  rcases Nat.mod_two_eq_zero_or_one a with h | h <;> rcases Nat.mod_two_eq_zero_or_one b with h' | h' <;> rw [h, h']
  · simp
  · simp [Nat.xor_assoc]
  · rw [show (1 ^^^ 0) = 1 from rfl, if_pos rfl, if_neg (by decide)]; simp only [Nat.xor_zero]; rw [Nat.xor_assoc, Nat.xor_assoc, Nat.xor_comm (b >>> 1)]
  · rw [show (1 ^^^ 1) = 0 from rfl, if_neg (by decide), if_pos rfl]
    apply Nat.eq_of_testBit_eq; intro i; simp only [Nat.testBit_xor, Nat.zero_testBit]
    cases Nat.testBit (a >>> 1) i <;> cases Nat.testBit (b >>> 1) i <;> cases Nat.testBit 2197175160 i <;> rfl
theorem sts_xor : ∀ n a b, sts n (a ^^^ b) = sts n a ^^^ sts n b
  | 0, a, b => rfl
  | n + 1, a, b => by rw [sts, sts, sts, st_xor, sts_xor n]
theorem st_double (y : Nat) : st (y * 2) = y := by
  unfold st
  rw [if_neg (by omega), Nat.xor_zero, Nat.shiftRight_eq_div_pow]; omega
theorem sts_shift : ∀ n y, sts n (y * 2 ^ n) = y
  | 0, y => by simp [sts]
  | n + 1, y => by rw [sts, Nat.pow_succ, ← Nat.mul_assoc, st_double, sts_shift n]
theorem sts_add : ∀ m n x, sts (m + n) x = sts n (sts m x)
  | 0, n, x => by rw [Nat.zero_add]; rfl
  | m + 1, n, x => by rw [show m + 1 + n = (m + n) + 1 by omega, sts, sts, sts_add m n]
theorem st_lt {x : Nat} (h : x < 4294967296) : st x < 4294967296 := by
  unfold st
  apply Nat.xor_lt_two_pow (n := 32)
  · rw [Nat.shiftRight_eq_div_pow]; omega
  · split <;> decide
theorem sts_lt : ∀ n {x : Nat}, x < 4294967296 → sts n x < 4294967296
  | 0, x, h => h
  | n + 1, x, h => sts_lt n (st_lt h)
/-- One bit back. -/
theorem st_ne {x : Nat} (h : x < 4294967296) (h0 : x ≠ 0) : st x ≠ 0 := by
  intro e
  unfold st at e
  have e2 := xor_zero e
  split at e2
  · rw [Nat.shiftRight_eq_div_pow] at e2; omega
  · rw [Nat.shiftRight_eq_div_pow] at e2; omega
theorem sts_ne : ∀ n {x : Nat}, x < 4294967296 → x ≠ 0 → sts n x ≠ 0
  | 0, x, _, h => h
  | n + 1, x, h, h0 => sts_ne n (st_lt h) (st_ne h h0)
theorem sts_inj (n : Nat) {x y : Nat} (hx : x < 4294967296) (hy : y < 4294967296) (h : sts n x = sts n y) : x = y := by
  have := sts_xor n x y
  rw [h, Nat.xor_self] at this
  by_cases c : x ^^^ y = 0
  · exact xor_zero c
  · exact absurd this (sts_ne n (Nat.xor_lt_two_pow (n := 32) hx hy) c)
/-- A text as one number, its first byte the lowest. -/
def le : List UInt8 → Nat
  | [] => 0
  | c :: t => c.toNat + 256 * le t
theorem le_lt : ∀ l, le l < 2 ^ (8 * l.length)
  | [] => by simp [le]
  | c :: t => by
    have := le_lt t; have hc := c.toNat_lt
    rw [le, List.length_cons, show 8 * (t.length + 1) = 8 + 8 * t.length by omega, Nat.pow_add]
    omega
/-- The register behind a text. -/
def reg : Nat → List UInt8 → Nat
  | r, [] => r
  | r, c :: t => reg (sts 8 (r ^^^ c.toNat)) t
theorem xor_add_shift (a b n : Nat) (h : a < 2 ^ n) : a + 2 ^ n * b = a ^^^ (b * 2 ^ n) := by
  rw [Nat.add_comm, Nat.mul_comm, ← Nat.shiftLeft_eq, Nat.shiftLeft_add_eq_or_of_lt h]
  apply Nat.eq_of_testBit_eq; intro i
  rw [Nat.testBit_or, Nat.testBit_xor, Nat.testBit_shiftLeft]
  by_cases c : n ≤ i
  · have : a.testBit i = false := Nat.testBit_lt_two_pow (Nat.lt_of_lt_of_le h (Nat.pow_le_pow_right (by decide) c))
    rw [this]; simp
  · simp [c]
theorem reg_is : ∀ (l : List UInt8) (r : Nat), reg r l = sts (8 * l.length) (r ^^^ le l)
  | [], r => by simp [reg, le, sts]
  | c :: t, r => by
    have hc := c.toNat_lt
    rw [reg, reg_is t, le, List.length_cons, show 8 * (t.length + 1) = 8 + 8 * t.length by omega, sts_add, show (256 : Nat) = 2 ^ 8 from rfl, xor_add_shift _ _ 8 hc, ← Nat.xor_assoc, sts_xor 8 (r ^^^ c.toNat), sts_shift]
theorem reg_append : ∀ (a b : List UInt8) (r : Nat), reg r (a ++ b) = reg (reg r a) b
  | [], b, r => rfl
  | c :: a, b, r => reg_append a b _
theorem reg_lt : ∀ (l : List UInt8) {r : Nat}, r < 4294967296 → reg r l < 4294967296
  | [], r, h => h
  | c :: t, r, h => reg_lt t (sts_lt 8 (Nat.xor_lt_two_pow (n := 32) h (by have := c.toNat_lt; omega)))
/-- A number's four bytes, the lowest first. -/
def b4 (c : Nat) : List UInt8 := [UInt8.ofNat (c % 256), UInt8.ofNat (c / 256 % 256), UInt8.ofNat (c / 65536 % 256), UInt8.ofNat (c / 16777216 % 256)]
theorem b4_le {c : Nat} (h : c < 4294967296) : le (b4 c) = c := by
  simp only [b4, le, UInt8.toNat_ofNat']
  omega
theorem le_b4 (l : List UInt8) (h : l.length = 4) : b4 (le l) = l := by
  obtain ⟨a, b, c, d, rfl⟩ : ∃ a b c d, l = [a, b, c, d] := by
    match l, h with
    | [a, b, c, d], _ => exact ⟨a, b, c, d, rfl⟩
  have ha := a.toNat_lt; have hb := b.toNat_lt; have hc := c.toNat_lt; have hd := d.toNat_lt
  simp only [b4, le]
  rw [show (a.toNat + 256 * (b.toNat + 256 * (c.toNat + 256 * (d.toNat + 256 * 0)))) % 256 = a.toNat by omega,
    show (a.toNat + 256 * (b.toNat + 256 * (c.toNat + 256 * (d.toNat + 256 * 0)))) / 256 % 256 = b.toNat by omega,
    show (a.toNat + 256 * (b.toNat + 256 * (c.toNat + 256 * (d.toNat + 256 * 0)))) / 65536 % 256 = c.toNat by omega,
    show (a.toNat + 256 * (b.toNat + 256 * (c.toNat + 256 * (d.toNat + 256 * 0)))) / 16777216 % 256 = d.toNat by omega]
  simp
def ones : Nat := 4294967295
/-- A text's check sum. -/
def sum (l : List UInt8) : Nat := 4294967295 - reg ones l
theorem sum_lt (l : List UInt8) : sum l < 4294967296 := by unfold sum; omega
theorem xor_ones {x : Nat} (h : x < 4294967296) : x ^^^ 4294967295 = 4294967295 - x := by
  apply Nat.eq_of_testBit_eq; intro i
  have := Nat.testBit_two_pow_sub_succ (n := 32) h i
  rw [show 2 ^ 32 - (x + 1) = 4294967295 - x by omega] at this
  rw [this, Nat.testBit_xor, show (4294967295 : Nat) = 2 ^ 32 - 1 from rfl, Nat.testBit_two_pow_sub_one]
  by_cases c : i < 32
  · simp [c]
  · have : x.testBit i = false := Nat.testBit_lt_two_pow (Nat.lt_of_lt_of_le h (Nat.pow_le_pow_right (by decide : 0 < 2) (show 32 ≤ i by omega)))
    simp [c, this]
/-- A sealed text: what the register comes to behind it. -/
theorem sealed_iff (a b : List UInt8) (hb : b.length = 4) : b = b4 (sum a) ↔ reg ones (a ++ b) = sts 32 ones := by
  have hr : reg ones a < 4294967296 := reg_lt a (by decide)
  have e : reg ones (a ++ b) = sts 32 (reg ones a ^^^ le b) := by rw [reg_append, reg_is b, hb]
  have hl : le b < 4294967296 := by have := le_lt b; rw [hb] at this; exact this
  have hs : reg ones a ^^^ sum a = ones := by
    unfold sum
    rw [← xor_ones hr, ← Nat.xor_assoc, Nat.xor_self, Nat.zero_xor]; rfl
  rw [e]
  constructor
  · intro h
    rw [h, b4_le (sum_lt a), hs]
  · intro h
    have := sts_inj 32 (Nat.xor_lt_two_pow (n := 32) hr hl) (by decide) h
    have h2 : le b = sum a := by
      have := congrArg (fun z => reg ones a ^^^ z) (this.trans hs.symm)
      simpa [← Nat.xor_assoc] using this
    rw [← h2, le_b4 b hb]
/-- Two texts of one length that differ by a mask of 32 bits from a place on: at most one of them is sealed. -/
theorem burst {a b : List UInt8} (h : a.length = b.length) (at_ m : Nat) (hm : m < 4294967296) (h0 : m ≠ 0) (hat : at_ ≤ 8 * a.length) (e : le b = le a ^^^ (m * 2 ^ at_)) : reg ones a ≠ reg ones b := by
  intro hr
  rw [reg_is, reg_is, ← h, e, ← Nat.xor_assoc, sts_xor _ (ones ^^^ le a)] at hr
  have : sts (8 * a.length) (m * 2 ^ at_) = 0 := by
    have := congrArg (fun z => sts (8 * a.length) (ones ^^^ le a) ^^^ z) hr
    simpa [← Nat.xor_assoc] using this.symm
  rw [show 8 * a.length = at_ + (8 * a.length - at_) by omega, sts_add, sts_shift] at this
  exact sts_ne _ hm h0 this
theorem xor_mul (a b n : Nat) : (a ^^^ b) * 2 ^ n = (a * 2 ^ n) ^^^ (b * 2 ^ n) := by
  rw [← Nat.shiftLeft_eq, ← Nat.shiftLeft_eq, ← Nat.shiftLeft_eq, Nat.shiftLeft_xor_distrib]
theorem le_cons (c : UInt8) (t : List UInt8) : le (c :: t) = c.toNat ^^^ (le t * 2 ^ 8) := by
  rw [le, show (256 : Nat) = 2 ^ 8 from rfl, xor_add_shift _ _ 8 c.toNat_lt]
/-- One bit turned. -/
theorem le_set : ∀ (l : List UInt8) (j k : Nat) (hj : j < l.length) (hk : k < 8), le (l.set j (UInt8.ofNat (l[j].toNat ^^^ 2 ^ k))) = le l ^^^ 2 ^ (8 * j + k)
  | c :: t, 0, k, hj, hk => by
    have h2 : 2 ^ k < 2 ^ 8 := Nat.pow_lt_pow_right (by decide) hk
    have h : c.toNat ^^^ 2 ^ k < 2 ^ 8 := Nat.xor_lt_two_pow c.toNat_lt h2
    rw [List.set_cons_zero, le_cons, le_cons, List.getElem_cons_zero, UInt8.toNat_ofNat', Nat.mod_eq_of_lt h, Nat.mul_zero, Nat.zero_add, Nat.xor_assoc, Nat.xor_assoc, Nat.xor_comm (2 ^ k)]
  | c :: t, j + 1, k, hj, hk => by
    have ih := le_set t j k (by simpa using hj) hk
    rw [List.set_cons_succ, le_cons, le_cons, List.getElem_cons_succ, ih, xor_mul, Nat.xor_assoc, ← Nat.pow_add, show 8 * j + k + 8 = 8 * (j + 1) + k by omega]
/-- From the i-th bit of the mask on, n bits. -/
def tn (a m : Nat) : Nat → Nat → List UInt8 → List UInt8
  | 0, i, l => l
  | n + 1, i, l => if a + i < 8 * l.length then tn a m n (i + 1) (if m / 2 ^ i % 2 = 1 then l.set ((a + i) / 8) (UInt8.ofNat ((l.getD ((a + i) / 8) 0).toNat ^^^ 2 ^ ((a + i) % 8))) else l) else l
theorem tn_len (a m : Nat) : ∀ n i l, (tn a m n i l).length = l.length
  | 0, i, l => rfl
  | n + 1, i, l => by
    unfold tn
    split
    · rw [tn_len a m n]; split <;> simp
    · rfl
theorem tn_le (a m : Nat) : ∀ n i l, ∃ d, d < 2 ^ n ∧ le (tn a m n i l) = le l ^^^ (d * 2 ^ (a + i))
  | 0, i, l => ⟨0, by decide, by simp [tn]⟩
  | n + 1, i, l => by
    unfold tn
    split
    case isFalse => exact ⟨0, Nat.pow_pos (by decide), by simp⟩
    rename_i hlt
    by_cases c : m / 2 ^ i % 2 = 1
    · rw [if_pos c]
      have hj : (a + i) / 8 < l.length := by omega
      obtain ⟨d, h1, h2⟩ := tn_le a m n (i + 1) (l.set ((a + i) / 8) (UInt8.ofNat ((l.getD ((a + i) / 8) 0).toNat ^^^ 2 ^ ((a + i) % 8))))
      have hg : l.getD ((a + i) / 8) 0 = l[(a + i) / 8] := by rw [List.getD_eq_getElem?_getD, List.getElem?_eq_getElem hj]; rfl
      rw [hg] at h2 ⊢
      rw [le_set l _ _ hj (Nat.mod_lt _ (by decide)), show 8 * ((a + i) / 8) + (a + i) % 8 = a + i by omega] at h2
      have hd : 1 + 2 ^ 1 * d = 1 ^^^ (d * 2 ^ 1) := xor_add_shift 1 d 1 (by decide)
      refine ⟨1 + 2 ^ 1 * d, by rw [Nat.pow_succ]; omega, ?_⟩
      rw [h2, hd, xor_mul, Nat.one_mul, Nat.xor_assoc, Nat.mul_assoc, ← Nat.pow_add, show 1 + (a + i) = a + (i + 1) by omega]
    · rw [if_neg c]
      obtain ⟨d, h1, h2⟩ := tn_le a m n (i + 1) l
      refine ⟨d * 2, by rw [Nat.pow_succ]; omega, ?_⟩
      rw [h2, Nat.mul_assoc, show 2 * 2 ^ (a + i) = 2 ^ (a + (i + 1)) by rw [← Nat.add_assoc, Nat.pow_succ]; omega]
/-- The bytes ahead of the place stay. -/
theorem tn_take (a m : Nat) (j : Nat) (hj : 8 * j ≤ a) : ∀ n i l, (tn a m n i l).take j = l.take j
  | 0, i, l => rfl
  | n + 1, i, l => by
    unfold tn
    split
    · rw [tn_take a m j hj n]
      split
      · rw [List.take_set_of_le (by omega)]
      · rfl
    · rfl
theorem le_inj : ∀ {a b : List UInt8}, a.length = b.length → le a = le b → a = b
  | [], [], _, _ => rfl
  | c :: t, d :: u, h, e => by
    have h1 := c.toNat_lt; have h2 := d.toNat_lt
    rw [le, le] at e
    rw [UInt8.toNat_inj.1 (show c.toNat = d.toNat by omega), le_inj (by simpa using h) (show le t = le u by omega)]
/-- A sealed text with some bits turned within 32 in a row is none. -/
theorem turned_not (l : List UInt8) (a m : Nat) (ha : a < 8 * l.length) (hs : reg ones l = sts 32 ones) (hne : tn a m 32 0 l ≠ l) : reg ones (tn a m 32 0 l) ≠ sts 32 ones := by
  obtain ⟨d, h1, h2⟩ := tn_le a m 32 0 l
  rw [← hs]
  refine Ne.symm (burst (tn_len a m 32 0 l).symm a d h1 ?_ (by omega) h2)
  intro e
  rw [e, Nat.zero_mul, Nat.xor_zero] at h2
  exact hne (le_inj (tn_len a m 32 0 l) h2)
end Go.Proofs.Ytgfmbddkefjchaa.Ck
