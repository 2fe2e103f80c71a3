/- WireAsks, plain: any request has the bytes that the document says, or may not be; any bytes are a request's that may be, or none's. -/
import Derived.Test.YtikbpjdgihheiaaM0
import Derived.Test.YtikbpjdgihheiaaM1
import Derived.Test.YtikbpjdgihheiaaM2
import Derived.Test.YtikbpjdgihheiaaM6
import Derived.Test.YtikbpjdgihheiaaM7
import Derived.Test.YtikbpjdgihheiaaM3
import Derived.Test.YtikbpjdgihheiaaM4
import Derived.Test.YtikbpjdgihheiaaM5
import Derived.Test.YtikbpjdgihheiaaM8
import Derived.Test.YtikbpjdgihheiaaM9
import Derived.Test.YtikbpjdgihheiaaM14
import Derived.Test.YtikbpjdgihheiaaM16
import Derived.Test.YtikbpjdgihheiaaM19
import Derived.Test.YtikbpjdgihheiaaM10
import Derived.Test.YtikbpjdgihheiaaM11
import Derived.Test.YtikbpjdgihheiaaM12
import Derived.Test.YtikbpjdgihheiaaM13
import Derived.Test.YtikbpjdgihheiaaM15
import Derived.Test.YtikbpjdgihheiaaM17
import Derived.Test.YtikbpjdgihheiaaM18
import Derived.Test.YtikbpjdgihheiaaVm
import Derived.Laws.Bits64
set_option linter.unusedVariables false
set_option linter.unusedSimpArgs false
namespace Go.Proofs.Ytikbpjdgihheiaa.Vref
open Go.RowKit Go.Proofs.Ytikbpjdgihheiaa.Vm Go.Proofs.Ytikbpjdgihheiaa.P Go.Proofs.YtikbpjdgihheiaaW.PrintWords
theorem u64w (n : Int) : IntKind.u64.wrap n = n % 18446744073709551616 := IntKind.wrap_u64 n
theorem w64 {x : Int} (h0 : -9223372036854775808 ≤ x) (h1 : x ≤ 9223372036854775807) : wrap64 x = x := by unfold wrap64; omega
def toB (xs : List Int) : List UInt8 := xs.map fun n => UInt8.ofNat n.toNat
theorem toB_snoc (xs : List Int) (n : Int) : toB (xs ++ [n]) = toB xs ++ [UInt8.ofNat n.toNat] := by simp [toB]
theorem strOfNums_snoc (xs : List Int) (n : Int) : strOfNums (xs ++ [n]) = bs (toB xs ++ [UInt8.ofNat n.toNat]) := by rw [strOfNums_bs]; simp [toB]
theorem put_l0 (f : Nat) : ∀ (u k : Nat) (acc : List Int), u < 2 * 128 ^ f → f ≤ 9 → f < k → acc.length + f < 100 →
    headgateref01_Put.l0 k (u : Int) acc = some (bs (toB acc ++ sev f u)) := by
  induction f with
  | zero =>
    intro u k acc hu _ hk hl
    obtain ⟨k, rfl⟩ : ∃ m, k = m + 1 := ⟨k - 1, by omega⟩
    simp only [headgateref01_Put.l0]
    rw [if_neg (by omega), if_pos (by omega), strOfNums_snoc]
    have : ((u : Int) % 256).toNat = u := by omega
    rw [this]
    rfl
  | succ f ih =>
    intro u k acc hu hf hk hl
    have hs : 2 * 128 ^ (f + 1) = 128 * (2 * 128 ^ f) := by rw [Nat.pow_succ]; omega
    have hmax : 2 * 128 ^ (f + 1) ≤ 18446744073709551616 := by
      have : 128 ^ (f + 1) ≤ 128 ^ 9 := Nat.pow_le_pow_right (by decide) hf
      omega
    obtain ⟨k, rfl⟩ : ∃ m, k = m + 1 := ⟨k - 1, by omega⟩
    simp only [headgateref01_Put.l0]
    unfold sev
    by_cases h : u < 128
    · rw [if_neg (by omega), if_pos (by omega), strOfNums_snoc, if_pos h]
      have : ((u : Int) % 256).toNat = u := by omega
      rw [this]
    · rw [if_pos (by omega), if_pos (by omega), if_neg h]
      have e1 : IntKind.u64.wrap (Int.tdiv (u : Int) 128) = ((u / 128 : Nat) : Int) := by
        rw [Int.tdiv_eq_ediv_of_nonneg (by omega), u64w]; omega
      have e2 : ((IntKind.u64.wrap (Int.tmod (u : Int) 128 + 128)) % 256).toNat = u % 128 + 128 := by
        rw [Int.tmod_eq_emod_of_nonneg (by omega), u64w]; omega
      rw [e1, ih (u / 128) k _ (by omega) (by omega) (by omega) (by simp; omega), toB_snoc, e2]
      simp
theorem put_f (n : Int) (hn : I64 n) (k : Nat) (hk : 12 ≤ k) : headgateref01_Put.f k n = some (bs (enc n)) := by
  have hz := zz_lt.2 hn
  obtain ⟨k, rfl⟩ : ∃ m, k = m + 1 := ⟨k - 1, by omega⟩
  unfold I64 at hn
  unfold headgateref01_Put.f
  split
  · rename_i h
    have e : IntKind.u64.wrap (IntKind.u64.wrap (IntKind.u64.wrap (wrap64 (-(wrap64 (n + 1)))) * 2) + 1) = ((zz n : Nat) : Int) := by
      unfold wrap64 zz; rw [if_pos h]; simp only [u64w]; omega
    rw [e]
    simp only [headgateref01_Put.j0]
    exact put_l0 9 _ _ _ hz (by omega) (by omega) (by simp)
  · rename_i h
    have e : IntKind.u64.wrap (IntKind.u64.wrap n * 2) = ((zz n : Nat) : Int) := by
      unfold zz; rw [if_neg h]; simp only [u64w]; omega
    rw [e]
    simp only [headgateref01_Put.j0]
    exact put_l0 9 _ _ _ hz (by omega) (by omega) (by simp)
/-- What bytes' sevens come to, the first byte the lowest. -/
def m64 (n : Nat) : Nat := n % 18446744073709551616
theorem m64_lt (n : Nat) : m64 n < 18446744073709551616 := Nat.mod_lt _ (by decide)
theorem m64_of {n : Nat} (h : n < 18446744073709551616) : m64 n = n := Nat.mod_eq_of_lt h
def val : List UInt8 → Nat
  | [] => 0
  | c :: t => c.toNat % 128 + 128 * val t
theorem val_sev (f : Nat) : ∀ u, u < 2 * 128 ^ f → val (sev f u) = u := by
  induction f with
  | zero => intro u hu; simp [sev, val, toNat_ofNat_lt (show u < 256 by omega)]; omega
  | succ f ih =>
    intro u hu
    have hs : 2 * 128 ^ (f + 1) = 128 * (2 * 128 ^ f) := by rw [Nat.pow_succ]; omega
    unfold sev
    split
    · rename_i h; simp [val, toNat_ofNat_lt (show u < 256 by omega)]; omega
    · simp only [val]; rw [ih _ (by omega), toNat_ofNat_lt (by omega)]; omega
/-- All bytes of a number but its last one are 128 or more; its last one is less. -/
theorem sev_tops (f : Nat) : ∀ u, u < 2 * 128 ^ f → (∀ i, i + 1 < (sev f u).length → 128 ≤ ((sev f u).getD i 0).toNat) ∧ ((sev f u).getD ((sev f u).length - 1) 0).toNat < 128 := by
  induction f with
  | zero => intro u hu; simp [sev, toNat_ofNat_lt (show u < 256 by omega)]; omega
  | succ f ih =>
    intro u hu
    have hs : 2 * 128 ^ (f + 1) = 128 * (2 * 128 ^ f) := by rw [Nat.pow_succ]; omega
    unfold sev
    split
    · rename_i h; simp [toNat_ofNat_lt (show u < 256 by omega)]; omega
    · obtain ⟨h1, h2⟩ := ih (u / 128) (by omega)
      have hl := (sev_len f (u / 128)).1
      constructor
      · intro i hi
        cases i with
        | zero => simp only [List.getD_cons_zero]; rw [toNat_ofNat_lt (by omega)]; omega
        | succ i => simp only [List.getD_cons_succ]; exact h1 i (by simpa using hi)
      · obtain ⟨m, hm⟩ : ∃ m, (sev f (u / 128)).length = m + 1 := ⟨_, (Nat.sub_add_cancel hl).symm⟩
        simp only [List.length_cons, Nat.add_sub_cancel]
        rw [hm]
        simp only [List.getD_cons_succ]
        rw [hm] at h2
        exact h2
theorem bt_bs (l : List UInt8) (i : Nat) (h : i < l.length) : bt (bs l) (i : Int) = ((l.getD i 0).toNat : Int) := by
  unfold bt
  rw [dif_pos (by simpa using h)]
  simp only [Int.toNat_natCast]
  rw [List.getD_eq_getElem?_getD, List.getElem?_eq_getElem h]
  rfl
/-- Where the scan stops: at the first byte below 128, at the end, or behind ten. -/
theorem take_l0 (l : List UInt8) (hl : l.length ≤ 9223372036854775800) (k : Nat) : ∀ (d i : Nat), i ≤ l.length → i ≤ 10 → d = 10 - i → (∀ j : Nat, j < i → 128 ≤ (l.getD j 0).toNat) → d < k →
    ∃ i' k' : Nat, k' + d + 1 ≥ k ∧ k' < k ∧ headgateref01_Take.l0 k (bs l) (i : Int) = headgateref01_Take.j1 k' (bs l) (i' : Int) ∧ i' ≤ l.length ∧ i' ≤ 10 ∧ (∀ j : Nat, j < i' → 128 ≤ (l.getD j 0).toNat) ∧ (i' = l.length ∨ i' = 10 ∨ (i' < l.length ∧ i' < 10 ∧ (l.getD i' 0).toNat < 128)) := by
  induction k with
  | zero => intro d i _ _ _ _ hk; omega
  | succ k ih =>
    intro d i h1 h2 hd hall hk
    simp only [headgateref01_Take.l0]
    by_cases hlt : i < l.length
    · rw [if_pos (by simp; omega)]
      by_cases h10 : i < 10
      · rw [if_pos (by omega), if_pos (by omega), bt_bs l i hlt]
        by_cases hb : 128 ≤ (l.getD i 0).toNat
        · rw [if_pos (by omega)]
          have e : wrap64 ((i : Int) + 1) = ((i + 1 : Nat) : Int) := by unfold wrap64; omega
          rw [e]
          obtain ⟨i', k', ha, hb', hc, hr⟩ := ih (d - 1) (i + 1) (by omega) (by omega) (by omega) (fun j hj => by
            rcases Nat.lt_or_ge j i with h | h
            · exact hall j h
            · obtain rfl : j = i := by omega
              exact hb) (by omega)
          exact ⟨i', k', by omega, by omega, hc, hr⟩
        · rw [if_neg (by omega)]
          exact ⟨i, k, by omega, by omega, rfl, h1, h2, hall, .inr (.inr ⟨hlt, h10, by omega⟩)⟩
      · rw [if_neg (by omega)]
        exact ⟨i, k, by omega, by omega, rfl, h1, h2, hall, .inr (.inl (by omega))⟩
    · rw [if_neg (by simp; omega)]
      exact ⟨i, k, by omega, by omega, rfl, h1, h2, hall, .inl (by omega)⟩
theorem val_drop (t : List UInt8) (m : Nat) (h : m < t.length) : val (t.drop m) = (t.getD m 0).toNat % 128 + 128 * val (t.drop (m + 1)) := by
  rw [List.drop_eq_getElem_cons h, val, List.getD_eq_getElem?_getD, List.getElem?_eq_getElem h]
  rfl
theorem l1_round (k : Nat) (x0 : ByteArray) (x5 x6 x7 : Int) (h0 : 0 ≤ x7) (h1 : x7 < (x0.size : Int)) : headgateref01_Take.l1 (k + 1) x0 x5 x6 x7 = headgateref01_Take.l1 k x0 x5 (IntKind.u64.wrap ((IntKind.u64.wrap (x6 * 128)) + (Int.tmod (IntKind.u64.wrap (bt x0 x7)) 128))) (wrap64 (x7 - 1)) := by
  rw [headgateref01_Take.l1, if_pos h0, if_pos h0, if_pos h1]
theorem take_l1 (l : List UInt8) (x5 : Nat) (hx : x5 < l.length) (h10 : x5 < 10) : ∀ (m k : Nat), m ≤ x5 + 1 → m + 20 ≤ k →
    ∃ k', 12 ≤ k' ∧ headgateref01_Take.l1 k (bs l) (x5 : Int) ((m64 (val ((l.take (x5 + 1)).drop m)) : Nat) : Int) ((m : Int) - 1) = headgateref01_Take.l1 (k' + 1) (bs l) (x5 : Int) ((m64 (val (l.take (x5 + 1))) : Nat) : Int) (-1) := by
  intro m
  induction m with
  | zero =>
    intro k _ hk
    obtain ⟨k, rfl⟩ : ∃ q, k = q + 1 := ⟨k - 1, by omega⟩
    refine ⟨k, by omega, ?_⟩
    rw [List.drop_zero, show ((0 : Nat) : Int) - 1 = -1 by omega]
  | succ m ih =>
    intro k hm hk
    obtain ⟨k, rfl⟩ : ∃ q, k = q + 1 := ⟨k - 1, by omega⟩
    obtain ⟨k', h1, h2⟩ := ih k (by omega) (by omega)
    refine ⟨k', h1, ?_⟩
    rw [← h2]
    have hlen : (l.take (x5 + 1)).length = x5 + 1 := by simp; omega
    have hg : (l.take (x5 + 1)).getD m 0 = l.getD m 0 := by
      simp only [List.getD_eq_getElem?_getD]
      rw [List.getElem?_take_of_lt (by omega)]
    have hv := val_drop (l.take (x5 + 1)) m (by omega)
    rw [hg] at hv
    have hbyte := (l.getD m 0).toNat_lt
    have e0 : ((m + 1 : Nat) : Int) - 1 = (m : Int) := by omega
    rw [e0]
    rw [l1_round k (bs l) _ _ (m : Int) (by omega) (by simp; omega), bt_bs l m (by omega)]
    have e1 : wrap64 ((m : Int) - 1) = (m : Int) - 1 := by unfold wrap64; omega
    have e2 : IntKind.u64.wrap ((IntKind.u64.wrap (((m64 (val ((l.take (x5 + 1)).drop (m + 1))) : Nat) : Int) * 128)) + (Int.tmod (IntKind.u64.wrap ((l.getD m 0).toNat : Int)) 128)) = ((m64 (val ((l.take (x5 + 1)).drop m)) : Nat) : Int) := by
      rw [hv]
      simp only [u64w, m64]
      rw [Int.tmod_eq_emod_of_nonneg (by omega)]
      omega
    rw [e1, e2]
theorem take_l1' (l : List UInt8) (x5 : Nat) (hx : x5 < l.length) (h10 : x5 < 10) (k : Nat) (hk : 40 ≤ k) :
    ∃ k', 12 ≤ k' ∧ headgateref01_Take.l1 k (bs l) (x5 : Int) 0 (x5 : Int) = headgateref01_Take.l1 (k' + 1) (bs l) (x5 : Int) ((m64 (val (l.take (x5 + 1))) : Nat) : Int) (-1) := by
  obtain ⟨kk, hkk, h⟩ := take_l1 l x5 hx h10 (x5 + 1) k (by omega) (by omega)
  refine ⟨kk, hkk, ?_⟩
  have hz : val ((l.take (x5 + 1)).drop (x5 + 1)) = 0 := by
    rw [List.drop_of_length_le (by rw [List.length_take]; omega)]
    rfl
  have hm : ((m64 0 : Nat) : Int) = 0 := rfl
  have e0 : ((x5 + 1 : Nat) : Int) - 1 = (x5 : Int) := by omega
  rw [hz, hm, e0] at h
  exact h
theorem take_fin (l : List UInt8) (hl : l.length ≤ 9223372036854775800) (i : Nat) (hlt : i < l.length) (h10 : i < 10) (hall : ∀ j : Nat, j < i → 128 ≤ (l.getD j 0).toNat) (hlast : (l.getD i 0).toNat < 128) (kk : Nat) (hkk : 12 ≤ kk) (u : Nat) (hu : m64 (val (l.take (i + 1))) = u) :
    ((headgateref01_Put.f kk (uz u)).bind fun t107 => (if 0 ≤ (wrap64 ((i : Int) + 1)) then (if (wrap64 ((i : Int) + 1)) ≤ ((bs l).size : Int) then (if t107.toList = ((bs l).extract 0 ((wrap64 ((i : Int) + 1)) : Int).toNat).toList then (some (uz u, (bs l).extract ((wrap64 ((i : Int) + 1)) : Int).toNat (bs l).size, (0 : Int))) else (some (0, (⟨#[]⟩ : ByteArray), 2))) else (none)) else (none))) = some (takeR (dec l)) := by
  have hult : u < 18446744073709551616 := by rw [← hu]; exact m64_lt _
  have e1 : wrap64 ((i : Int) + 1) = ((i + 1 : Nat) : Int) := by unfold wrap64; omega
  have hn : I64 (uz u) := zz_lt.1 (by rw [zz_uz]; exact hult)
  have hb : (i : Int) + 1 ≤ ((bs l).size : Int) := by rw [size_bs]; omega
  rw [put_f _ hn kk hkk, Option.bind_some, e1, if_pos (by omega), if_pos (by omega), Int.toNat_natCast, extract_bs, extract_bs, toList_bs, toList_bs, size_bs, List.drop_zero, Nat.sub_zero]
  by_cases hc : enc (uz u) = l.take (i + 1)
  · rw [if_pos hc]
    have : dec l = some (uz u, l.drop (i + 1)) := (dec_iff _ _ _).2 ⟨by rw [hc, List.take_append_drop], hn⟩
    rw [this, List.take_of_length_le (by simp)]
    rfl
  · rw [if_neg hc]
    cases hd : dec l with
    | none => rfl
    | some p =>
      exfalso
      obtain ⟨m, r⟩ := p
      obtain ⟨rfl, hm⟩ := (dec_iff l m r).1 hd
      have htop := sev_tops 9 (zz m) (zz_lt.2 hm)
      have hlen := enc_len m
      have hget : ∀ j, j < (enc m).length → (enc m ++ r).getD j 0 = (enc m).getD j 0 := fun j hj => by
        simp only [List.getD_eq_getElem?_getD]
        rw [List.getElem?_append_left hj]
      have hi : i + 1 = (enc m).length := by
        rcases Nat.lt_trichotomy (i + 1) (enc m).length with h | h | h
        · have h1 := htop.1 i h
          rw [hget i (by omega)] at hlast
          unfold enc at hlast
          omega
        · exact h
        · have h1 := hall ((enc m).length - 1) (by omega)
          rw [hget _ (by omega)] at h1
          unfold enc at h1
          omega
      have htk : (enc m ++ r).take (i + 1) = enc m := by rw [hi, List.take_left]
      rw [htk] at hu hc
      have hv : val (enc m) = zz m := val_sev 9 _ (zz_lt.2 hm)
      have hzl := zz_lt.2 hm
      rw [hv, m64_of hzl] at hu
      apply hc
      rw [← hu, uz_zz]
theorem take_f (l : List UInt8) (hl : l.length ≤ 9223372036854775800) (k : Nat) (hk : 80 ≤ k) : headgateref01_Take.f k (bs l) = some (takeR (dec l)) := by
  unfold headgateref01_Take.f
  obtain ⟨i, k', hk1, hk2, he, hi1, hi2, hall, hend⟩ := take_l0 l hl k 10 0 (by omega) (by omega) rfl (fun j hj => by omega) (by omega)
  rw [show (0 : Int) = ((0 : Nat) : Int) from rfl, he]
  have bad : (i = l.length ∨ i = 10) → dec l = none := by
    intro hb
    cases hd : dec l with
    | none => rfl
    | some p =>
      exfalso
      obtain ⟨n, r⟩ := p
      obtain ⟨rfl, hn⟩ := (dec_iff l n r).1 hd
      have ht := (sev_tops 9 (zz n) (zz_lt.2 hn)).2
      have hlen := enc_len n
      have h1 : (enc n).length - 1 < i := by
        rcases hb with hb | hb
        · rw [List.length_append] at hb; omega
        · omega
      have h2 := hall _ h1
      have h3 : (enc n ++ r).getD ((enc n).length - 1) 0 = (enc n).getD ((enc n).length - 1) 0 := by
        simp only [List.getD_eq_getElem?_getD]
        rw [List.getElem?_append_left (by omega)]
      rw [h3] at h2
      unfold enc at h2
      omega
  obtain ⟨k', rfl⟩ : ∃ q, k' = q + 1 := ⟨k' - 1, by omega⟩
  rw [headgateref01_Take.j1]
  obtain ⟨k', rfl⟩ : ∃ q, k' = q + 1 := ⟨k' - 1, by omega⟩
  by_cases hA : i = l.length
  · rw [if_pos (by rw [size_bs]; omega), headgateref01_Take.j2, if_pos rfl, bad (.inl hA)]
    rfl
  · rw [if_neg (by rw [size_bs]; omega), headgateref01_Take.j2]
    by_cases hB : i = 10
    · rw [if_pos (beq_iff_eq.mpr (by omega)), bad (.inr hB)]
      rfl
    · rw [if_neg (by rw [beq_iff_eq]; omega)]
      obtain ⟨hlt, h10, hlast⟩ : i < l.length ∧ i < 10 ∧ (l.getD i 0).toNat < 128 := by
        rcases hend with h | h | h
        · exact absurd h hA
        · exact absurd h hB
        · exact h
      obtain ⟨kk, hkk, hl1⟩ := take_l1' l i hlt h10 k' (by omega)
      rw [hl1]
      have hult := m64_lt (val (l.take (i + 1)))
      generalize hu : m64 (val (l.take (i + 1))) = u at hult
      have hfin := take_fin l hl i hlt h10 hall hlast kk hkk u hu
      rw [headgateref01_Take.l1, if_neg (by omega)]
      have hq : Int.tdiv (u : Int) 2 = ((u / 2 : Nat) : Int) := by rw [Int.tdiv_eq_ediv_of_nonneg (by omega)]; omega
      have hr : Int.tmod (u : Int) 2 = ((u % 2 : Nat) : Int) := by rw [Int.tmod_eq_emod_of_nonneg (by omega)]; omega
      rw [hq, hr]
      by_cases hodd : u % 2 = 1
      · rw [if_pos (by omega)]
        have e : wrap64 (wrap64 (-(wrap64 (IntKind.u64.wrap ((u / 2 : Nat) : Int)))) - 1) = uz u := by
          have h1 : IntKind.u64.wrap ((u / 2 : Nat) : Int) = ((u / 2 : Nat) : Int) := by rw [u64w]; omega
          rw [h1, w64 (x := ((u / 2 : Nat) : Int)) (by omega) (by omega), w64 (x := -((u / 2 : Nat) : Int)) (by omega) (by omega), w64 (by omega) (by omega)]
          unfold uz
          rw [if_pos hodd]
        rw [e]
        exact hfin
      · rw [if_neg (by omega)]
        have e : wrap64 (IntKind.u64.wrap ((u / 2 : Nat) : Int)) = uz u := by
          have h1 : IntKind.u64.wrap ((u / 2 : Nat) : Int) = ((u / 2 : Nat) : Int) := by rw [u64w]; omega
          rw [h1, w64 (x := ((u / 2 : Nat) : Int)) (by omega) (by omega)]
          unfold uz
          rw [if_neg hodd]
        rw [e]
        exact hfin
end Go.Proofs.Ytikbpjdgihheiaa.Vref
set_option linter.unusedVariables false
set_option linter.unusedSimpArgs false
namespace Go.Proofs.Ytikbpjdgihheiaa.Vp
open Go.RowKit Go.Proofs.Ytikbpjdgihheiaa.Vm Go.Proofs.Ytikbpjdgihheiaa.Vref Go.Proofs.Ytikbpjdgihheiaa.P Go.Proofs.YtikbpjdgihheiaaW.PrintWords
theorem i64_of {n : Int} (h : (Lit.int .i64 n).wf = true) : I64 n := by
  simp only [Lit.wf, IntKind.min, IntKind.max, IntKind.signed, IntKind.bits, Bool.and_eq_true, decide_eq_true_eq, if_true] at h
  unfold I64
  omega
theorem put_eq {n : Int} (h : I64 n) : varint_Put.f n = some (bs (enc n)) := if_pos h
theorem take_eq (l : List UInt8) (h : l.length ≤ 9223372036854775807) : varint_Take.f (bs l) = some (takeR (dec l)) := by
  unfold varint_Take.f
  rw [size_bs, if_pos h, data_bs]
theorem len_i64 {l : List UInt8} (h : l.length ≤ 9223372036854775807) : I64 (l.length : Int) := by unfold I64; omega
theorem takeR_1 (n : Int) (r : List UInt8) : (takeR (some (n, r))).1 = n := rfl
theorem takeR_2 (n : Int) (r : List UInt8) : (takeR (some (n, r))).2.1 = bs r := rfl
theorem takeR_3 (n : Int) (r : List UInt8) : (takeR (some (n, r))).2.2 = 0 := rfl
theorem takeR_n3 : (takeR none).2.2 = 2 := rfl
theorem takeR_n2 : (takeR none).2.1 = bs [] := rfl
/-- A text of so many bytes at most, with which bytes begin. -/
def ttext (l : List UInt8) (m : Int) : Option (List UInt8 × List UInt8) :=
  (dec l).bind fun p => if p.1 < 0 ∨ p.1 > m ∨ p.1 > (p.2.length : Int) then none else some (p.2.take p.1.toNat, p.2.drop p.1.toNat)
def textR : Option (List UInt8 × List UInt8) → ByteArray × ByteArray × Int
  | some (a, b) => (bs a, bs b, 0)
  | none => (bs [], bs [], 2)
theorem text_core (l : List UInt8) (m : Int) : (if (takeR (dec l)).2.2 = 0 then (if (takeR (dec l)).1 < 0 then (some ((⟨#[]⟩ : ByteArray), (⟨#[]⟩ : ByteArray), (2 : Int))) else (if (takeR (dec l)).1 > m then (some ((⟨#[]⟩ : ByteArray), (⟨#[]⟩ : ByteArray), 2)) else (if (takeR (dec l)).1 > ((takeR (dec l)).2.1.size : Int) then (some ((⟨#[]⟩ : ByteArray), (⟨#[]⟩ : ByteArray), 2)) else (if 0 ≤ (takeR (dec l)).1 then (if (takeR (dec l)).1 ≤ ((takeR (dec l)).2.1.size : Int) then (some ((takeR (dec l)).2.1.extract 0 ((takeR (dec l)).1 : Int).toNat, (takeR (dec l)).2.1.extract ((takeR (dec l)).1 : Int).toNat (takeR (dec l)).2.1.size, 0)) else (none)) else (none))))) else (some ((⟨#[]⟩ : ByteArray), (⟨#[]⟩ : ByteArray), 2))) = some (textR (ttext l m)) := by
  unfold ttext
  cases dec l with
  | none => rfl
  | some p =>
    obtain ⟨n, r⟩ := p
    rw [takeR_1, takeR_2, takeR_3, Option.bind_some, size_bs, if_pos rfl]
    show _ = some (textR (if n < 0 ∨ n > m ∨ n > (r.length : Int) then none else some (r.take n.toNat, r.drop n.toNat)))
    by_cases h1 : n < 0
    · rw [if_pos h1, if_pos (.inl h1)]; rfl
    · rw [if_neg h1]
      by_cases h2 : n > m
      · rw [if_pos h2, if_pos (.inr (.inl h2))]; rfl
      · rw [if_neg h2]
        by_cases h3 : n > (r.length : Int)
        · rw [if_pos h3, if_pos (.inr (.inr h3))]; rfl
        · rw [if_neg h3, if_pos (by omega), if_pos (by omega), if_neg (by omega), extract_bs, extract_bs, List.drop_zero, Nat.sub_zero, List.take_of_length_le (l := r.drop n.toNat) (by simp)]
          rfl
theorem takeText_eq (l : List UInt8) (h : l.length ≤ 9223372036854775800) (m : Int) : varint_TakeText.f (bs l) m = some (textR (ttext l m)) := by
  unfold varint_TakeText.f
  rw [take_eq l (by omega), Option.bind_some]
  exact text_core l m
theorem rtakeText_eq (l : List UInt8) (h : l.length ≤ 9223372036854775800) (m : Int) (k : Nat) (hk : 80 ≤ k) : headgateref01_TakeText.f k (bs l) m = some (textR (ttext l m)) := by
  unfold headgateref01_TakeText.f
  rw [take_f l h k hk, Option.bind_some]
  exact text_core l m
def ptext (l : List UInt8) : List UInt8 := enc (l.length : Int) ++ l
theorem ptext_len (l : List UInt8) : (ptext l).length ≤ l.length + 10 := by have := (enc_len (l.length : Int)).2; unfold ptext; rw [List.length_append]; omega
theorem putText_eq (l : List UInt8) (h : l.length ≤ 9223372036854775000) : varint_PutText.f (bs l) = some (bs (ptext l)) := by
  have := (enc_len (l.length : Int)).2
  unfold varint_PutText.f ptext
  rw [size_bs, put_eq (len_i64 (by omega)), Option.bind_some, if_pos (by rw [size_bs]; omega), append_bs]
theorem rtext_eq (l : List UInt8) (h : l.length ≤ 9223372036854775000) (k : Nat) (hk : 12 ≤ k) : headgateref01_Text.f k (bs l) = some (bs (ptext l)) := by
  have := (enc_len (l.length : Int)).2
  unfold headgateref01_Text.f ptext
  rw [size_bs, put_f _ (len_i64 (by omega)) k hk, Option.bind_some, if_pos (by rw [size_bs]; omega), append_bs]
theorem ttext_ptext (l r : List UInt8) (h : l.length ≤ 9223372036854775000) (m : Int) (hm : (l.length : Int) ≤ m) : ttext (ptext l ++ r) m = some (l, r) := by
  unfold ttext ptext
  rw [List.append_assoc, dec_enc (len_i64 (by omega)), Option.bind_some]
  simp only
  rw [if_neg (by rw [List.length_append]; omega), Int.toNat_natCast, List.take_left, List.drop_left]
theorem ttext_short (l r : List UInt8) (h : l.length ≤ 9223372036854775000) (m : Int) (hm : m < (l.length : Int)) : ttext (ptext l ++ r) m = none := by
  unfold ttext ptext
  rw [List.append_assoc, dec_enc (len_i64 (by omega)), Option.bind_some]
  simp only
  rw [if_pos (by omega)]
/-- What is a text's with which bytes begin: they are its bytes, and what is behind it. -/
theorem ttext_some {l a b : List UInt8} {m : Int} (h : ttext l m = some (a, b)) : l = ptext a ++ b ∧ (a.length : Int) ≤ m := by
  unfold ttext at h
  cases hd : dec l with
  | none => rw [hd] at h; cases h
  | some p =>
    obtain ⟨n, r⟩ := p
    rw [hd, Option.bind_some] at h
    simp only at h
    split at h
    · cases h
    · rename_i hc
      simp only [Option.some.injEq, Prod.mk.injEq] at h
      obtain ⟨rfl, rfl⟩ := h
      obtain ⟨rfl, hn⟩ := (dec_iff _ _ _).1 hd
      have hl : ((r.take n.toNat).length : Int) = n := by rw [List.length_take]; omega
      unfold ptext
      rw [hl, List.append_assoc, List.take_append_drop]
      exact ⟨rfl, by omega⟩
/-- So many numbers, with which bytes begin. -/
def decN : Nat → List UInt8 → Option (List Int × List UInt8)
  | 0, l => some ([], l)
  | n + 1, l => (dec l).bind fun p => (decN n p.2).map fun q => (p.1 :: q.1, q.2)
theorem decN_iff (n : Nat) : ∀ (l : List UInt8) (xs : List Int) (r : List UInt8), decN n l = some (xs, r) ↔ l = xs.flatMap enc ++ r ∧ xs.length = n ∧ ∀ x ∈ xs, I64 x := by
  induction n with
  | zero =>
    intro l xs r
    simp only [decN, Option.some.injEq, Prod.mk.injEq]
    constructor
    · rintro ⟨rfl, rfl⟩; simp
    · rintro ⟨h1, h2, -⟩
      obtain rfl := List.eq_nil_of_length_eq_zero h2
      simp at h1
      exact ⟨rfl, h1⟩
  | succ n ih =>
    intro l xs r
    simp only [decN, Option.bind_eq_some_iff, Option.map_eq_some_iff, Prod.exists, Prod.mk.injEq]
    constructor
    · rintro ⟨x, l', hd, ys, r', hn, rfl, rfl⟩
      obtain ⟨rfl, hx⟩ := (dec_iff _ _ _).1 hd
      obtain ⟨rfl, hl, hall⟩ := (ih _ _ _).1 hn
      refine ⟨by simp, by simp [hl], fun y hy => ?_⟩
      rcases List.mem_cons.1 hy with rfl | hy
      · exact hx
      · exact hall y hy
    · rintro ⟨rfl, h2, h3⟩
      cases xs with
      | nil => simp at h2
      | cons x ys =>
        have hx := h3 x (List.mem_cons_self ..)
        refine ⟨x, ys.flatMap enc ++ r, ?_, ys, r, (ih _ _ _).2 ⟨rfl, by simpa using h2, fun y hy => h3 y (List.mem_cons_of_mem _ hy)⟩, rfl, rfl⟩
        rw [List.flatMap_cons, List.append_assoc]
        exact dec_enc hx _
def allR : Option (List Int × List UInt8) → List Int × ByteArray × Int
  | some (a, b) => (a, bs b, 0)
  | none => ([], bs [], 2)
/-- What TakeAll tells. -/
def takeAllR (l : List UInt8) (n : Int) : List Int × ByteArray × Int := if n < 0 ∨ n > 64 then ([], bs [], 1) else allR (decN n.toNat l)
theorem takeAll_l0 (d : Nat) : ∀ (l : List UInt8) (acc : List Int) (n i : Int) (k : Nat), l.length ≤ 9223372036854775800 → 0 ≤ i → i ≤ n → n ≤ 64 → n - i = d → d < k → acc.length ≤ 64 - d →
    varint_TakeAll.l0 k (bs l) acc n i = some (allR ((decN d l).map fun q => (acc ++ q.1, q.2))) := by
  induction d with
  | zero =>
    intro l acc n i k hl h0 h1 h64 hd hk ha
    obtain ⟨k, rfl⟩ : ∃ m, k = m + 1 := ⟨k - 1, by omega⟩
    rw [varint_TakeAll.l0, if_neg (by omega)]
    simp [decN, allR]
  | succ d ih =>
    intro l acc n i k hl h0 h1 h64 hd hk ha
    obtain ⟨k, rfl⟩ : ∃ m, k = m + 1 := ⟨k - 1, by omega⟩
    rw [varint_TakeAll.l0, if_pos (by omega), take_eq l (by omega), Option.bind_some]
    cases hdc : dec l with
    | none =>
      rw [takeR_n3, if_neg (by decide)]
      simp only [decN, hdc]
      rfl
    | some p =>
      obtain ⟨x, r⟩ := p
      have hr := (dec_iff _ _ _).1 hdc
      have hrl : r.length ≤ l.length := by rw [hr.1, List.length_append]; omega
      rw [takeR_1, takeR_2, takeR_3, if_pos rfl, if_pos (by omega), w64 (by omega) (by omega), ih r (acc ++ [x]) n (i + 1) k (by omega) (by omega) (by omega) h64 (by omega) (by omega) (by rw [List.length_append, List.length_singleton]; omega)]
      simp only [decN, hdc, Option.bind_some, Option.map_map]
      congr 2
      cases decN d r <;> simp
theorem rtakeAll_l0 (d : Nat) : ∀ (l : List UInt8) (acc : List Int) (n i : Int) (k : Nat), l.length ≤ 9223372036854775800 → 0 ≤ i → i ≤ n → n ≤ 64 → n - i = d → d + 80 < k → acc.length ≤ 64 - d →
    headgateref01_TakeAll.l0 k (bs l) n acc i = some (allR ((decN d l).map fun q => (acc ++ q.1, q.2))) := by
  induction d with
  | zero =>
    intro l acc n i k hl h0 h1 h64 hd hk ha
    obtain ⟨k, rfl⟩ : ∃ m, k = m + 1 := ⟨k - 1, by omega⟩
    rw [headgateref01_TakeAll.l0, if_neg (by omega)]
    simp [decN, allR]
  | succ d ih =>
    intro l acc n i k hl h0 h1 h64 hd hk ha
    obtain ⟨k, rfl⟩ : ∃ m, k = m + 1 := ⟨k - 1, by omega⟩
    rw [headgateref01_TakeAll.l0, if_pos (by omega), take_f l (by omega) k (by omega), Option.bind_some]
    cases hdc : dec l with
    | none =>
      rw [takeR_n3, if_neg (by decide)]
      simp only [decN, hdc]
      rfl
    | some p =>
      obtain ⟨x, r⟩ := p
      have hr := (dec_iff _ _ _).1 hdc
      have hrl : r.length ≤ l.length := by rw [hr.1, List.length_append]; omega
      rw [takeR_1, takeR_2, takeR_3, if_pos rfl, if_pos (by omega), w64 (by omega) (by omega), ih r (acc ++ [x]) n (i + 1) k (by omega) (by omega) (by omega) h64 (by omega) (by omega) (by rw [List.length_append, List.length_singleton]; omega)]
      simp only [decN, hdc, Option.bind_some, Option.map_map]
      congr 2
      cases decN d r <;> simp
theorem takeAll_eq (l : List UInt8) (hl : l.length ≤ 9223372036854775800) (n : Int) (k : Nat) (hk : 200 ≤ k) : varint_TakeAll.f k (bs l) n = some (takeAllR l n) := by
  obtain ⟨k, rfl⟩ : ∃ m, k = m + 1 := ⟨k - 1, by omega⟩
  unfold varint_TakeAll.f takeAllR
  rw [varint_TakeAll.j0, if_pos rfl, varint_TakeAll.j0]
  by_cases h0 : n < 0
  · rw [if_pos h0, if_pos (.inl h0)]; rfl
  · rw [if_neg h0]
    by_cases h1 : n > 64
    · rw [if_pos (decide_eq_true h1), if_pos (.inr h1)]; rfl
    · rw [if_neg (by rw [decide_eq_true_eq]; exact h1), if_neg (by omega), takeAll_l0 n.toNat l [] n 0 k hl (by omega) (by omega) (by omega) (by omega) (by omega) (by simp)]
      congr 2
      cases decN n.toNat l <;> simp
theorem rtakeAll_eq (l : List UInt8) (hl : l.length ≤ 9223372036854775800) (n : Int) (k : Nat) (hk : 200 ≤ k) : headgateref01_TakeAll.f k (bs l) n = some (takeAllR l n) := by
  obtain ⟨k, rfl⟩ : ∃ m, k = m + 1 := ⟨k - 1, by omega⟩
  unfold headgateref01_TakeAll.f takeAllR
  rw [headgateref01_TakeAll.j0, if_pos rfl, headgateref01_TakeAll.j0]
  by_cases h0 : n < 0
  · rw [if_pos h0, if_pos (.inl h0)]; rfl
  · rw [if_neg h0]
    by_cases h1 : n > 64
    · rw [if_pos (decide_eq_true h1), if_pos (.inr h1)]; rfl
    · rw [if_neg (by rw [decide_eq_true_eq]; exact h1), if_neg (by omega), rtakeAll_l0 n.toNat l [] n 0 k hl (by omega) (by omega) (by omega) (by omega) (by omega) (by simp)]
      congr 2
      cases decN n.toNat l <;> simp
theorem putAll_eq (l : List Int) (hl : l.length ≤ 1099511627776) (h : ∀ x ∈ l, I64 x) : varint_PutAll.f l = some (bs (l.flatMap enc)) := if_pos ⟨hl, h⟩
theorem rsame_l0 (a b : List Int) (hab : a.length = b.length) (ha : a.length ≤ 9223372036854775800) (d : Nat) : ∀ (i k : Nat), i ≤ a.length → a.length - i = d → d < k →
    headgateref01_Same.l0 k a b (i : Int) = some (decide (a.drop i = b.drop i)) := by
  induction d with
  | zero =>
    intro i k hi hd hk
    obtain ⟨k, rfl⟩ : ∃ m, k = m + 1 := ⟨k - 1, by omega⟩
    rw [headgateref01_Same.l0, if_neg (by omega), List.drop_of_length_le (by omega), List.drop_of_length_le (by omega)]
    rfl
  | succ d ih =>
    intro i k hi hd hk
    obtain ⟨k, rfl⟩ : ∃ m, k = m + 1 := ⟨k - 1, by omega⟩
    have h1 : i < a.length := by omega
    have h2 : i < b.length := by omega
    have ea : rd a (i : Int) = a[i] := by simp [rd, List.getD_eq_getElem?_getD, List.getElem?_eq_getElem h1]
    have eb : rd b (i : Int) = b[i] := by simp [rd, List.getD_eq_getElem?_getD, List.getElem?_eq_getElem h2]
    rw [headgateref01_Same.l0, if_pos (by omega), if_pos (by omega), if_pos (by omega), ea, eb]
    have da := List.drop_eq_getElem_cons h1
    have db := List.drop_eq_getElem_cons h2
    by_cases hx : a[i] = b[i]
    · rw [if_pos hx, w64 (by omega) (by omega)]
      have := ih (i + 1) k (by omega) (by omega) (by omega)
      rw [show ((i : Int) + 1) = ((i + 1 : Nat) : Int) by omega, this, da, db, hx]
      refine congrArg some (decide_eq_decide.mpr ⟨fun h => by rw [h], fun h => (List.cons.inj h).2⟩)
    · rw [if_neg hx, da, db]
      exact congrArg some (decide_eq_false fun h => hx (List.cons.inj h).1).symm
theorem rsame_eq (a b : List Int) (ha : a.length ≤ 9223372036854775800) (k : Nat) (hk : a.length < k) : headgateref01_Same.f k a b = some (decide (a = b)) := by
  unfold headgateref01_Same.f
  by_cases h : (a.length : Int) = (b.length : Int)
  · rw [if_pos h]
    exact rsame_l0 a b (by omega) ha a.length 0 k (by omega) (by omega) hk
  · rw [if_neg h]
    have : a ≠ b := fun e => h (by rw [e])
    simp [this]
end Go.Proofs.Ytikbpjdgihheiaa.Vp
set_option linter.unusedVariables false
set_option linter.unusedSimpArgs false
namespace Go.Proofs.Ytikbpjdgihheiaa.Bt
open Go.RowKit Go.Proofs.Ytikbpjdgihheiaa.Vm Go.Proofs.Ytikbpjdgihheiaa.Vref Go.Proofs.Ytikbpjdgihheiaa.Vp Go.Proofs.Ytikbpjdgihheiaa.P Go.Proofs.YtikbpjdgihheiaaW.PrintWords Go.Proofs.YtikbpjdgihheiaaW.PrintLast
def mayR (x : S57) : Bool := decide (0 ≤ x.f0 ∧ x.f0 ≤ 1048576 ∧ 0 ≤ x.f1 ∧ x.f1 ≤ 1099511627776 ∧ (x.f2.size : Int) ≤ 512)
theorem mayR_iff {x : S57} : mayR x = true ↔ (0 ≤ x.f0 ∧ x.f0 ≤ 1048576 ∧ 0 ≤ x.f1 ∧ x.f1 ≤ 1099511627776 ∧ (x.f2.size : Int) ≤ 512) := by unfold mayR; exact decide_eq_true_iff
theorem may_eq (x : S57) : batch_may.f x.f0 x.f1 x.f2 = some (mayR x) := by
  unfold batch_may.f batch_within.f
  rw [Option.bind_some]
  have h2 : ([x.f0, x.f1].any batch_within.p) = decide ((x.f0 < 0 ∨ x.f0 > 1099511627776) ∨ (x.f1 < 0 ∨ x.f1 > 1099511627776)) := by
    rw [Bool.decide_or]
    show (batch_within.p x.f0 || (batch_within.p x.f1 || false)) = _
    rw [Bool.or_false]
    rfl
  rw [h2]
  by_cases c : (x.f0 < 0 ∨ x.f0 > 1099511627776) ∨ (x.f1 < 0 ∨ x.f1 > 1099511627776)
  · rw [decide_eq_true c, if_neg (by decide)]
    refine congrArg some (Bool.eq_false_iff.2 fun h => ?_).symm
    rw [mayR_iff] at h; omega
  · rw [decide_eq_false c, if_pos (show (!false) = true from rfl)]
    by_cases c2 : x.f0 ≤ 1048576
    · rw [if_pos c2]
      refine congrArg some (decide_eq_decide.mpr ⟨fun h => ⟨by omega, by omega, by omega, by omega, h⟩, fun h => h.2.2.2.2⟩)
    · rw [if_neg c2]
      refine congrArg some (Bool.eq_false_iff.2 fun h => ?_).symm
      rw [mayR_iff] at h; omega
theorem rmay_eq (x : S57) : headgateref06_MayRecord.f x.f0 x.f1 x.f2 = some (mayR x) := by
  unfold headgateref06_MayRecord.f headgateref06_In.f
  have no : ¬ (0 ≤ x.f0 ∧ x.f0 ≤ 1048576 ∧ 0 ≤ x.f1 ∧ x.f1 ≤ 1099511627776 ∧ (x.f2.size : Int) ≤ 512) → some false = some (mayR x) := fun h => by
    refine congrArg some (Bool.eq_false_iff.2 fun h' => h (mayR_iff.1 h')).symm
  by_cases c0 : x.f0 ≥ 0
  · rw [if_pos c0]
    by_cases c1 : x.f0 ≤ 1048576
    · rw [if_pos c1]
      by_cases c2 : x.f1 ≥ 0
      · rw [if_pos c2, Option.bind_some]
        by_cases c3 : x.f1 ≤ 1099511627776
        · rw [decide_eq_true c3, if_pos rfl]
          refine congrArg some (decide_eq_decide.mpr ⟨fun h => ⟨by omega, by omega, by omega, by omega, h⟩, fun h => h.2.2.2.2⟩)
        · rw [decide_eq_false c3, if_neg (by decide)]; exact no (by omega)
      · rw [if_neg c2, Option.bind_some, if_neg (by decide)]; exact no (by omega)
    · rw [if_neg c1]; exact no (by omega)
  · rw [if_neg c0]; exact no (by omega)
theorem rd_at (s : List S57) (j : Nat) (h : j < s.length) : rd_T57 s (j : Int) = s[j] := by
  unfold rd_T57
  rw [Int.toNat_natCast, List.getD_eq_getElem?_getD, List.getElem?_eq_getElem h]
  rfl
/-- What a kind asks of a batch that is good else. -/
def mayK (k p e s : Int) (n : Nat) : Bool :=
  decide ((k = 1 ∧ 0 < n ∧ ((p = 0 ∧ e = 0 ∧ s = 0) ∨ (p > 0 ∧ e > 0))) ∨ (k = 2 ∧ 0 < n ∧ p > 0 ∧ e > 0) ∨ ((k = 3 ∨ k = 4) ∧ n = 0 ∧ p > 0 ∧ e > 0 ∧ s = 0))
def mayH (p e s : Int) : Bool := decide (0 ≤ p ∧ p ≤ 8 ∧ 0 ≤ e ∧ e ≤ 1099511627776 ∧ 0 ≤ s ∧ s ≤ 1099511627776)
def mayB (k p e s : Int) (l : List S57) : Bool := mayH p e s && decide (l.length ≤ 64) && l.all mayR && mayK k p e s l.length
theorem j4_eq (k : Nat) (a b : Bool) (kd p e s : Int) (l : List S57) (c : Bool) (hk : 0 < k) : batch_Check.j4 k a b c kd p e s l = some (if (c && a && decide (l.length = 0) && b && decide (s = 0)) = true then 0 else 1) := by
  obtain ⟨k, rfl⟩ : ∃ m, k = m + 1 := ⟨k - 1, by omega⟩
  rw [batch_Check.j4]
  cases c <;> cases a <;> cases b <;> by_cases h1 : l.length = 0 <;> by_cases h2 : s = 0 <;> simp [h1, h2]
theorem j3_eq (k : Nat) (a n y : Bool) (kd p e s : Int) (l : List S57) (hk : 1 < k) : batch_Check.j3 k a n y kd p e s l = some (if (a && ((decide (kd = 1) && decide (0 < l.length) && (n || y)) || (decide (kd = 2) && decide (0 < l.length) && y) || ((decide (kd = 3) || decide (kd = 4)) && decide (l.length = 0) && y && decide (s = 0)))) = true then 0 else 1) := by
  obtain ⟨k, rfl⟩ : ∃ m, k = m + 1 := ⟨k - 1, by omega⟩
  rw [batch_Check.j3]
  have hl : ((l.length : Int) > 0) = (0 < l.length) := by apply propext; omega
  by_cases k1 : kd = 1
  · subst k1; simp only [hl, if_true]
    cases a <;> cases n <;> cases y <;> by_cases h1 : 0 < l.length <;> simp [h1]
  · by_cases k2 : kd = 2
    · subst k2; simp only [hl]
      cases a <;> cases n <;> cases y <;> by_cases h1 : 0 < l.length <;> simp [h1]
    · rw [if_neg k1, if_neg k2]
      by_cases k3 : kd = 3
      · subst k3; rw [if_pos rfl, j4_eq _ _ _ _ _ _ _ _ _ (by omega)]
        cases a <;> cases y <;> by_cases h1 : l.length = 0 <;> by_cases h2 : s = 0 <;> simp [h1, h2]
      · rw [if_neg k3, j4_eq _ _ _ _ _ _ _ _ _ (by omega)]
        by_cases k4 : kd = 4
        · subst k4
          cases a <;> cases y <;> by_cases h1 : l.length = 0 <;> by_cases h2 : s = 0 <;> simp [h1, h2]
        · have : (kd == 4) = false := by simpa using k4
          rw [this]; simp [k1, k2, k3, k4]
theorem mayK_eq (k p e s : Int) (n : Nat) : mayK k p e s n = ((decide (k = 1) && decide (0 < n) && (decide (p = 0 ∧ e = 0 ∧ s = 0) || decide (p > 0 ∧ e > 0))) || (decide (k = 2) && decide (0 < n) && decide (p > 0 ∧ e > 0)) || ((decide (k = 3) || decide (k = 4)) && decide (n = 0) && decide (p > 0 ∧ e > 0) && decide (s = 0))) := by
  unfold mayK
  simp only [Bool.decide_and, Bool.decide_or, Bool.and_assoc, Bool.or_assoc]
theorem j2_eq (k : Nat) (a n : Bool) (kd p e s : Int) (l : List S57) (hk : 2 < k) : batch_Check.j2 k a n kd p e s l = batch_Check.j3 (k - 1) a n (decide (p > 0 ∧ e > 0)) kd p e s l := by
  obtain ⟨k, rfl⟩ : ∃ m, k = m + 1 := ⟨k - 1, by omega⟩
  rw [batch_Check.j2]
  by_cases h1 : p > 0
  · rw [if_pos h1]; simp [h1]
  · rw [if_neg h1]; simp [h1]
theorem check_l0 (kd p e s : Int) (l : List S57) (hl : l.length ≤ 9223372036854775807) (d : Nat) : ∀ (j k : Nat) (a : Bool), l.length - j = d → j ≤ l.length → d + 5 < k →
    batch_Check.l0 k a l (l.length : Int) (j : Int) kd p e s l = some (if (a && (l.drop j).all mayR && mayK kd p e s l.length) = true then 0 else 1) := by
  induction d with
  | zero =>
    intro j k a hd hj hk
    obtain ⟨k, rfl⟩ : ∃ m, k = m + 1 := ⟨k - 1, by omega⟩
    have hf : (if p = 0 then (if e = 0 then (batch_Check.j2 k a (s == 0) kd p e s l) else (batch_Check.j2 k a false kd p e s l)) else (batch_Check.j2 k a false kd p e s l)) = batch_Check.j2 k a (decide (p = 0 ∧ e = 0 ∧ s = 0)) kd p e s l := by
      by_cases h1 : p = 0
      · rw [if_pos h1]
        by_cases h2 : e = 0
        · rw [if_pos h2]; congr 1; by_cases h3 : s = 0 <;> simp [h1, h2, h3]
        · rw [if_neg h2]; congr 1; simp [h2]
      · rw [if_neg h1]; congr 1; simp [h1]
    rw [batch_Check.l0, if_neg (by omega), hf, j2_eq _ _ _ _ _ _ _ _ (by omega), j3_eq _ _ _ _ _ _ _ _ _ (by omega), ← mayK_eq, List.drop_of_length_le (by omega)]
    simp
  | succ d ih =>
    intro j k a hd hj hk
    obtain ⟨k, rfl⟩ : ∃ m, k = m + 1 := ⟨k - 1, by omega⟩
    have hjl : j < l.length := by omega
    have e1 : wrap64 ((j : Int) + 1) = ((j + 1 : Nat) : Int) := by rw [w64 (by omega) (by omega)]; omega
    rw [batch_Check.l0, if_pos (by omega), if_pos (by omega), if_pos (by omega), rd_at l j hjl, may_eq, Option.bind_some, e1, List.drop_eq_getElem_cons hjl]
    cases a with
    | true =>
      rw [if_pos rfl, ih (j + 1) k _ (by omega) (by omega) (by omega), List.all_cons, Bool.true_and]
    | false =>
      rw [if_neg (by decide), ih (j + 1) k _ (by omega) (by omega) (by omega), Bool.false_and, Bool.false_and, Bool.false_and, Bool.false_and]
theorem check_eq (kd p e s : Int) (l : List S57) (hl : l.length ≤ 9223372036854775807) (k : Nat) (hk : l.length + 7 < k) : batch_Check.f k kd p e s l = some (if mayB kd p e s l = true then 0 else 1) := by
  unfold batch_Check.f batch_within.f
  rw [Option.bind_some]
  have j0 : ∀ a, batch_Check.j0 k a kd p e s l = some (if (a && l.all mayR && mayK kd p e s l.length) = true then 0 else 1) := fun a => by
    obtain ⟨k, rfl⟩ : ∃ m, k = m + 1 := ⟨k - 1, by omega⟩
    rw [batch_Check.j0]
    exact check_l0 kd p e s l hl l.length 0 k a (by omega) (by omega) (by omega)
  rw [j0, j0]
  have h3 : (!([p, e, s].any batch_within.p)) = decide (0 ≤ p ∧ p ≤ 1099511627776 ∧ 0 ≤ e ∧ e ≤ 1099511627776 ∧ 0 ≤ s ∧ s ≤ 1099511627776) := by
    show (!(batch_within.p p || (batch_within.p e || (batch_within.p s || false)))) = _
    rw [Bool.or_false]
    unfold batch_within.p
    rw [← Bool.decide_or, ← Bool.decide_or, ← decide_not]
    exact decide_eq_decide.mpr (by omega)
  rw [h3]
  unfold mayB mayH
  have hlen : decide ((l.length : Int) ≤ 64) = decide (l.length ≤ 64) := decide_eq_decide.mpr (by omega)
  by_cases c : 0 ≤ p ∧ p ≤ 1099511627776 ∧ 0 ≤ e ∧ e ≤ 1099511627776 ∧ 0 ≤ s ∧ s ≤ 1099511627776
  · rw [decide_eq_true c, if_pos rfl, hlen]
    by_cases c2 : p ≤ 8
    · rw [if_pos c2, decide_eq_true (show 0 ≤ p ∧ p ≤ 8 ∧ 0 ≤ e ∧ e ≤ 1099511627776 ∧ 0 ≤ s ∧ s ≤ 1099511627776 by omega), Bool.true_and]
    · rw [if_neg c2, decide_eq_false (show ¬ (0 ≤ p ∧ p ≤ 8 ∧ 0 ≤ e ∧ e ≤ 1099511627776 ∧ 0 ≤ s ∧ s ≤ 1099511627776) by omega), Bool.false_and, Bool.false_and, Bool.false_and, Bool.false_and, Bool.false_and]
  · rw [decide_eq_false c, if_neg (by decide), decide_eq_false (show ¬ (0 ≤ p ∧ p ≤ 8 ∧ 0 ≤ e ∧ e ≤ 1099511627776 ∧ 0 ≤ s ∧ s ≤ 1099511627776) by omega), Bool.false_and, Bool.false_and, Bool.false_and, Bool.false_and, Bool.false_and]
theorem rj3_eq (k : Nat) (y n : Bool) (kd p e s : Int) (l : List S57) (hk : 0 < k) : headgateref06_May.j3 k y n kd p e s l = some ((decide (kd = 1) && decide (0 < l.length) && (n || y)) || (decide (kd = 2) && decide (0 < l.length) && y) || ((decide (kd = 3) || decide (kd = 4)) && decide (l.length = 0) && y && decide (s = 0))) := by
  obtain ⟨k, rfl⟩ : ∃ m, k = m + 1 := ⟨k - 1, by omega⟩
  rw [headgateref06_May.j3]
  have hl : ((l.length : Int) > 0) = (0 < l.length) := by apply propext; omega
  have hl0 : ((l.length : Int) = 0) = (l.length = 0) := by apply propext; omega
  have hs : (s == 0) = decide (s = 0) := by by_cases h : s = 0 <;> simp [h]
  simp only [hl, hl0, hs]
  by_cases k1 : kd = 1
  · subst k1
    cases n <;> cases y <;> by_cases h1 : 0 < l.length <;> simp [h1]
  · by_cases k2 : kd = 2
    · subst k2
      cases n <;> cases y <;> by_cases h1 : 0 < l.length <;> simp [h1]
    · by_cases k3 : kd = 3
      · subst k3
        cases y <;> by_cases h1 : l.length = 0 <;> by_cases h2 : s = 0 <;> simp [h1, h2]
      · by_cases k4 : kd = 4
        · subst k4
          cases y <;> by_cases h1 : l.length = 0 <;> by_cases h2 : s = 0 <;> simp [h1, h2]
        · simp [k1, k2, k3, k4]
theorem rj2_eq (k : Nat) (y : Bool) (kd p e s : Int) (l : List S57) (hk : 1 < k) : headgateref06_May.j2 k y kd p e s l = headgateref06_May.j3 (k - 1) y (decide (p = 0 ∧ e = 0 ∧ s = 0)) kd p e s l := by
  obtain ⟨k, rfl⟩ : ∃ m, k = m + 1 := ⟨k - 1, by omega⟩
  rw [headgateref06_May.j2]
  by_cases h1 : p = 0
  · rw [if_pos h1]
    by_cases h2 : e = 0
    · rw [if_pos h2]; congr 1; by_cases h3 : s = 0 <;> simp [h1, h2, h3]
    · rw [if_neg h2]; congr 1; simp [h2]
  · rw [if_neg h1]; congr 1; simp [h1]
theorem rmay_l0 (kd p e s : Int) (l : List S57) (hl : l.length ≤ 9223372036854775807) (d : Nat) : ∀ (j k : Nat), l.length - j = d → j ≤ l.length → d + 4 < k →
    headgateref06_May.l0 k (j : Int) kd p e s l = some ((l.drop j).all mayR && mayK kd p e s l.length) := by
  induction d with
  | zero =>
    intro j k hd hj hk
    obtain ⟨k, rfl⟩ : ∃ m, k = m + 1 := ⟨k - 1, by omega⟩
    have hf : (if p > 0 then (headgateref06_May.j2 k (decide (e > 0)) kd p e s l) else (headgateref06_May.j2 k false kd p e s l)) = headgateref06_May.j2 k (decide (p > 0 ∧ e > 0)) kd p e s l := by
      by_cases h1 : p > 0
      · rw [if_pos h1]; simp [h1]
      · rw [if_neg h1]; simp [h1]
    rw [headgateref06_May.l0, if_neg (by omega), hf, rj2_eq _ _ _ _ _ _ _ (by omega), rj3_eq _ _ _ _ _ _ _ _ (by omega), ← mayK_eq, List.drop_of_length_le (by omega)]
    simp
  | succ d ih =>
    intro j k hd hj hk
    obtain ⟨k, rfl⟩ : ∃ m, k = m + 1 := ⟨k - 1, by omega⟩
    have hjl : j < l.length := by omega
    have e1 : wrap64 ((j : Int) + 1) = ((j + 1 : Nat) : Int) := by rw [w64 (by omega) (by omega)]; omega
    rw [headgateref06_May.l0, if_pos (by omega), if_pos (by omega), rd_at l j hjl, rmay_eq, Option.bind_some, e1, List.drop_eq_getElem_cons hjl, List.all_cons]
    cases hm : mayR l[j] with
    | true => rw [if_pos rfl, ih (j + 1) k (by omega) (by omega) (by omega), Bool.true_and]
    | false => rw [if_neg (by decide), Bool.false_and, Bool.false_and]
theorem rMay_eq (kd p e s : Int) (l : List S57) (hl : l.length ≤ 9223372036854775807) (k : Nat) (hk : l.length + 7 < k) : headgateref06_May.f k kd p e s l = some (mayB kd p e s l) := by
  obtain ⟨k, rfl⟩ : ∃ m, k = m + 1 := ⟨k - 1, by omega⟩
  have jt : headgateref06_May.j0 (k + 1) true kd p e s l = some false := by rw [headgateref06_May.j0, if_pos rfl]
  have hin : ∀ n, headgateref06_In.f n = some (decide (0 ≤ n ∧ n ≤ 1099511627776)) := fun n => by
    unfold headgateref06_In.f
    by_cases h : n ≥ 0
    · rw [if_pos h]; exact congrArg some (decide_eq_decide.mpr (by omega))
    · rw [if_neg h]; exact congrArg some (decide_eq_false (by omega)).symm
  have nop : mayH p e s = false → some false = some (mayB kd p e s l) := fun h => by unfold mayB; rw [h]; rfl
  have noh : ¬ (0 ≤ p ∧ p ≤ 8 ∧ 0 ≤ e ∧ e ≤ 1099511627776 ∧ 0 ≤ s ∧ s ≤ 1099511627776) → some false = some (mayB kd p e s l) := fun h => nop (decide_eq_false h)
  unfold headgateref06_May.f
  rw [hin, Option.bind_some]
  by_cases c1 : 0 ≤ p ∧ p ≤ 1099511627776
  · rw [decide_eq_true c1, if_pos rfl]
    by_cases c2 : p > 8
    · rw [if_pos c2, jt]; exact noh (by omega)
    · rw [if_neg c2, hin, Option.bind_some]
      by_cases c3 : 0 ≤ e ∧ e ≤ 1099511627776
      · rw [decide_eq_true c3, if_pos rfl, hin, Option.bind_some]
        by_cases c4 : 0 ≤ s ∧ s ≤ 1099511627776
        · rw [decide_eq_true c4, if_pos rfl, headgateref06_May.j0]
          have hH : mayH p e s = true := decide_eq_true (by omega)
          unfold mayB
          rw [hH, Bool.true_and]
          by_cases c5 : (l.length : Int) > 64
          · rw [if_pos (decide_eq_true c5), decide_eq_false (show ¬ l.length ≤ 64 by omega)]; rfl
          · have := rmay_l0 kd p e s l hl l.length 0 k (by omega) (by omega) (by omega)
            rw [if_neg (by rw [decide_eq_true_eq]; exact c5), decide_eq_true (show l.length ≤ 64 by omega), Bool.true_and]
            exact this
        · rw [decide_eq_false c4, if_neg (by decide), jt]; exact noh (by omega)
      · rw [decide_eq_false c3, if_neg (by decide), jt]; exact noh (by omega)
  · rw [decide_eq_false c1, if_neg (by decide), jt]; exact noh (by omega)
theorem light_l0 (kd p e s : Int) (l : List S57) (hl : l.length ≤ 9223372036854775807) (d : Nat) : ∀ (j k : Nat), l.length - j = d → j ≤ l.length → d < k →
    headgatelaw06_Light.l0 k (j : Int) kd p e s l = some ((l.drop j).all fun x => decide ((x.f2.size : Int) ≤ 1000)) := by
  induction d with
  | zero =>
    intro j k hd hj hk
    obtain ⟨k, rfl⟩ : ∃ m, k = m + 1 := ⟨k - 1, by omega⟩
    rw [headgatelaw06_Light.l0, if_neg (by omega), List.drop_of_length_le (by omega)]
    rfl
  | succ d ih =>
    intro j k hd hj hk
    obtain ⟨k, rfl⟩ : ∃ m, k = m + 1 := ⟨k - 1, by omega⟩
    have hjl : j < l.length := by omega
    have e1 : wrap64 ((j : Int) + 1) = ((j + 1 : Nat) : Int) := by rw [w64 (by omega) (by omega)]; omega
    rw [headgatelaw06_Light.l0, if_pos (by omega), if_pos (by omega), rd_at l j hjl, e1, List.drop_eq_getElem_cons hjl, List.all_cons]
    by_cases c : (l[j].f2.size : Int) > 1000
    · rw [if_pos c, decide_eq_false (by omega)]; rfl
    · rw [if_neg c, ih (j + 1) k (by omega) (by omega) (by omega), decide_eq_true (by omega), Bool.true_and]
def light (l : List S57) : Bool := decide (l.length ≤ 70) && l.all fun x => decide ((x.f2.size : Int) ≤ 1000)
theorem light_eq (kd p e s : Int) (l : List S57) (hl : l.length ≤ 9223372036854775807) (k : Nat) (hk : l.length < k) : headgatelaw06_Light.f k kd p e s l = some (light l) := by
  unfold headgatelaw06_Light.f light
  by_cases c : (l.length : Int) > 70
  · rw [if_pos c, decide_eq_false (by omega)]; rfl
  · rw [if_neg c, decide_eq_true (by omega), Bool.true_and]
    exact light_l0 kd p e s l hl l.length 0 k (by omega) (by omega) hk
end Go.Proofs.Ytikbpjdgihheiaa.Bt
set_option linter.unusedVariables false
set_option linter.unusedSimpArgs false
namespace Go.Proofs.Ytikbpjdgihheiaa.Be
open Go.RowKit Go.Proofs.Ytikbpjdgihheiaa.Vm Go.Proofs.Ytikbpjdgihheiaa.Vref Go.Proofs.Ytikbpjdgihheiaa.Vp Go.Proofs.Ytikbpjdgihheiaa.Bt Go.Proofs.Ytikbpjdgihheiaa.P Go.Proofs.YtikbpjdgihheiaaW.PrintWords Go.Proofs.YtikbpjdgihheiaaW.PrintLast
def encR (x : S57) : List UInt8 := enc x.f0 ++ enc x.f1 ++ ptext x.f2.data.toList
def encB (kd p e s : Int) (l : List S57) : List UInt8 := [kd, p, e, s, (l.length : Int)].flatMap enc ++ l.flatMap encR
theorem encR_len (x : S57) : (encR x).length ≤ x.f2.size + 30 := by
  have h1 := (enc_len x.f0).2
  have h2 := (enc_len x.f1).2
  have h3 := ptext_len x.f2.data.toList
  have h4 : x.f2.data.toList.length = x.f2.size := by simp
  unfold encR
  rw [List.length_append, List.length_append]
  omega
theorem mayR_i64 {x : S57} (h : mayR x = true) : I64 x.f0 ∧ I64 x.f1 ∧ x.f2.size ≤ 512 := by
  rw [mayR_iff] at h
  unfold I64
  omega
theorem put2 (x : S57) (h0 : I64 x.f0) (h1 : I64 x.f1) (h2 : x.f2.size ≤ 9000000000000000000) : batch_PutRecord.f x.f0 x.f1 x.f2 = some (bs (encR x)) := by
  have e1 := (enc_len x.f0).2
  have e2 := (enc_len x.f1).2
  have e3 := ptext_len x.f2.data.toList
  have e4 : x.f2.data.toList.length = x.f2.size := by simp
  have hp := putText_eq x.f2.data.toList (by omega)
  rw [bs_data] at hp
  unfold batch_PutRecord.f
  rw [putAll_eq [x.f0, x.f1] (by simp) (fun y hy => by rcases List.mem_cons.1 hy with rfl | hy; exact h0; rcases List.mem_cons.1 hy with rfl | hy; exact h1; cases hy), Option.bind_some, hp, Option.bind_some]
  have hf : [x.f0, x.f1].flatMap enc = enc x.f0 ++ enc x.f1 := by simp
  rw [hf, if_pos (by rw [size_bs, size_bs, List.length_append]; omega), append_bs]
  rfl
theorem rrec2 (x : S57) (h0 : I64 x.f0) (h1 : I64 x.f1) (h2 : x.f2.size ≤ 9000000000000000000) (k : Nat) (hk : 20 ≤ k) : headgateref06_Record.f k x.f0 x.f1 x.f2 = some (bs (encR x)) := by
  have e1 := (enc_len x.f0).2
  have e2 := (enc_len x.f1).2
  have e3 := ptext_len x.f2.data.toList
  have e4 : x.f2.data.toList.length = x.f2.size := by simp
  have hp := rtext_eq x.f2.data.toList (by omega) k (by omega)
  rw [bs_data] at hp
  unfold headgateref06_Record.f
  rw [put_f _ h0 k (by omega), Option.bind_some, put_f _ h1 k (by omega), Option.bind_some, if_pos (by rw [size_bs, size_bs]; omega), hp, Option.bind_some, append_bs, if_pos (by rw [size_bs, size_bs, List.length_append]; omega), append_bs]
  rfl
theorem mayB_iff {kd p e s : Int} {l : List S57} : mayB kd p e s l = true ↔ mayH p e s = true ∧ l.length ≤ 64 ∧ (∀ x ∈ l, mayR x = true) ∧ mayK kd p e s l.length = true := by
  unfold mayB
  rw [Bool.and_eq_true, Bool.and_eq_true, Bool.and_eq_true, decide_eq_true_eq, List.all_eq_true]
  exact ⟨fun ⟨⟨⟨a, b⟩, c⟩, d⟩ => ⟨a, b, c, d⟩, fun ⟨a, b, c, d⟩ => ⟨⟨⟨a, b⟩, c⟩, d⟩⟩
theorem mayB_i64 {kd p e s : Int} {l : List S57} (h : mayB kd p e s l = true) : I64 kd ∧ I64 p ∧ I64 e ∧ I64 s ∧ I64 (l.length : Int) := by
  obtain ⟨h1, h2, h3, h4⟩ := mayB_iff.1 h
  unfold mayH at h1
  unfold mayK at h4
  rw [decide_eq_true_eq] at h1 h4
  unfold I64
  omega
theorem encRs_len (l : List S57) (h : ∀ x ∈ l, mayR x = true) : (l.flatMap encR).length ≤ 542 * l.length := by
  induction l with
  | nil => simp
  | cons x r ih =>
    have := ih fun y hy => h y (List.mem_cons_of_mem _ hy)
    have h1 := encR_len x
    have h2 := (mayR_i64 (h x (List.mem_cons_self ..))).2.2
    rw [List.flatMap_cons, List.length_append, List.length_cons]
    omega
theorem five_len (a b c d e : Int) : ([a, b, c, d, e].flatMap enc).length ≤ 50 := by
  have h1 := (enc_len a).2
  have h2 := (enc_len b).2
  have h3 := (enc_len c).2
  have h4 := (enc_len d).2
  have h5 := (enc_len e).2
  simp only [List.flatMap_cons, List.flatMap_nil, List.length_append, List.length_nil]
  omega
theorem encB_len {kd p e s : Int} {l : List S57} (h : mayB kd p e s l = true) : (encB kd p e s l).length ≤ 40000 := by
  obtain ⟨h1, h2, h3, h4⟩ := mayB_iff.1 h
  have := encRs_len l h3
  have := five_len kd p e s (l.length : Int)
  unfold encB
  rw [List.length_append]
  omega
theorem g_eq (l : List S57) (h : ∀ x ∈ l, mayR x = true) : batch_Encode.g l = some (l.flatMap encR) := by
  induction l with
  | nil => rfl
  | cons x r ih =>
    obtain ⟨h0, h1, h2⟩ := mayR_i64 (h x (List.mem_cons_self ..))
    rw [batch_Encode.g, put2 x h0 h1 (by omega), Option.bind_some, ih fun y hy => h y (List.mem_cons_of_mem _ hy), Option.bind_some, data_bs, List.flatMap_cons]
def encodeR (kd p e s : Int) (l : List S57) : ByteArray × Int := if mayB kd p e s l = true then (bs (encB kd p e s l), 0) else (bs [], 1)
theorem encode_eq (kd p e s : Int) (l : List S57) (hl : l.length ≤ 9223372036854775807) (k : Nat) (hk : l.length + 7 < k) : batch_Encode.f k kd p e s l = some (encodeR kd p e s l) := by
  unfold batch_Encode.f encodeR
  rw [check_eq kd p e s l hl k hk, Option.bind_some]
  by_cases h : mayB kd p e s l = true
  · obtain ⟨i1, i2, i3, i4, i5⟩ := mayB_i64 h
    obtain ⟨h1, h2, h3, h4⟩ := mayB_iff.1 h
    have hn := encB_len h
    unfold encB at hn
    rw [List.length_append] at hn
    rw [if_pos h, if_pos rfl, if_pos h, putAll_eq _ (by simp) (fun y hy => by
      rcases List.mem_cons.1 hy with rfl | hy; exact i1
      rcases List.mem_cons.1 hy with rfl | hy; exact i2
      rcases List.mem_cons.1 hy with rfl | hy; exact i3
      rcases List.mem_cons.1 hy with rfl | hy; exact i4
      rcases List.mem_cons.1 hy with rfl | hy; exact i5
      cases hy), Option.bind_some, g_eq l h3, Option.bind_some, if_pos (by rw [size_bs]; omega), data_bs]
    rfl
  · rw [if_neg h, if_neg (by decide), if_neg h]
    rfl
theorem rencode_l0 (kd p e s : Int) (l : List S57) (hl : l.length ≤ 64) (hm : ∀ x ∈ l, mayR x = true) (d : Nat) : ∀ (j k : Nat) (acc : List UInt8), l.length - j = d → j ≤ l.length → d + 25 < k → acc.length + 542 * d ≤ 1000000 →
    headgateref06_Encode.l0 k (bs acc) (j : Int) kd p e s l = some (bs (acc ++ (l.drop j).flatMap encR), 0) := by
  induction d with
  | zero =>
    intro j k acc hd hj hk ha
    obtain ⟨k, rfl⟩ : ∃ m, k = m + 1 := ⟨k - 1, by omega⟩
    rw [headgateref06_Encode.l0, if_neg (by omega), List.drop_of_length_le (by omega), List.flatMap_nil, List.append_nil]
  | succ d ih =>
    intro j k acc hd hj hk ha
    obtain ⟨k, rfl⟩ : ∃ m, k = m + 1 := ⟨k - 1, by omega⟩
    have hjl : j < l.length := by omega
    have e1 : wrap64 ((j : Int) + 1) = ((j + 1 : Nat) : Int) := by rw [w64 (by omega) (by omega)]; omega
    obtain ⟨h0, h1, h2⟩ := mayR_i64 (hm l[j] (List.getElem_mem hjl))
    have hx := encR_len l[j]
    rw [headgateref06_Encode.l0, if_pos (by omega), if_pos (by omega), rd_at l j hjl, rrec2 _ h0 h1 (by omega) k (by omega), Option.bind_some, if_pos (by rw [size_bs, size_bs]; omega), append_bs, e1, ih (j + 1) k _ (by omega) (by omega) (by omega) (by rw [List.length_append]; omega), List.drop_eq_getElem_cons hjl, List.flatMap_cons, List.append_assoc]
theorem rencode_eq (kd p e s : Int) (l : List S57) (hl : l.length ≤ 9223372036854775807) (k : Nat) (hk : l.length + 100 < k) : headgateref06_Encode.f k kd p e s l = some (encodeR kd p e s l) := by
  unfold headgateref06_Encode.f encodeR
  rw [rMay_eq kd p e s l hl k (by omega), Option.bind_some]
  by_cases h : mayB kd p e s l = true
  · obtain ⟨i1, i2, i3, i4, i5⟩ := mayB_i64 h
    obtain ⟨h1, h2, h3, h4⟩ := mayB_iff.1 h
    have n1 := (enc_len kd).2
    have n2 := (enc_len p).2
    have n3 := (enc_len e).2
    have n4 := (enc_len s).2
    have n5 := (enc_len (l.length : Int)).2
    rw [if_pos h, if_pos h, put_f _ i1 k (by omega), Option.bind_some, put_f _ i2 k (by omega), Option.bind_some, if_pos (by rw [size_bs, size_bs]; omega), append_bs, put_f _ i3 k (by omega), Option.bind_some, if_pos (by rw [size_bs, size_bs, List.length_append]; omega), append_bs, put_f _ i4 k (by omega), Option.bind_some, if_pos (by rw [size_bs, size_bs, List.length_append, List.length_append]; omega), append_bs, put_f _ i5 k (by omega), Option.bind_some, if_pos (by rw [size_bs, size_bs, List.length_append, List.length_append, List.length_append]; omega), append_bs]
    have := rencode_l0 kd p e s l h2 h3 l.length 0 k (enc kd ++ enc p ++ enc e ++ enc s ++ enc (l.length : Int)) (by omega) (by omega) (by omega) (by simp only [List.length_append]; omega)
    refine this.trans ?_
    unfold encB
    simp only [List.flatMap_cons, List.flatMap_nil, List.append_nil, List.append_assoc, List.drop_zero]
  · rw [if_neg h, if_neg h]
    rfl
end Go.Proofs.Ytikbpjdgihheiaa.Be
set_option linter.unusedVariables false
set_option linter.unusedSimpArgs false
namespace Go.Proofs.Ytikbpjdgihheiaa.Bd
open Go.RowKit Go.Proofs.Ytikbpjdgihheiaa.Vm Go.Proofs.Ytikbpjdgihheiaa.Vref Go.Proofs.Ytikbpjdgihheiaa.Vp Go.Proofs.Ytikbpjdgihheiaa.Bt Go.Proofs.Ytikbpjdgihheiaa.Be Go.Proofs.Ytikbpjdgihheiaa.P Go.Proofs.YtikbpjdgihheiaaW.PrintWords Go.Proofs.YtikbpjdgihheiaaW.PrintLast
def decR (l : List UInt8) : Option (S57 × List UInt8) :=
  (dec l).bind fun p => (dec p.2).bind fun q => (ttext q.2 512).bind fun t => if mayR ⟨p.1, q.1, bs t.1⟩ = true then some (⟨p.1, q.1, bs t.1⟩, t.2) else none
theorem decR_iff (l : List UInt8) (x : S57) (r : List UInt8) : decR l = some (x, r) ↔ l = encR x ++ r ∧ mayR x = true := by
  unfold decR
  constructor
  · intro h
    obtain ⟨⟨a, l1⟩, h1, g1⟩ := Option.bind_eq_some_iff.mp h
    obtain ⟨⟨b, l2⟩, h2, g2⟩ := Option.bind_eq_some_iff.mp g1
    obtain ⟨⟨t, l3⟩, h3, g3⟩ := Option.bind_eq_some_iff.mp g2
    obtain ⟨e1, -⟩ := (dec_iff _ _ _).1 h1
    obtain ⟨e2, -⟩ := (dec_iff _ _ _).1 h2
    obtain ⟨e3, -⟩ := ttext_some h3
    clear h g1 g2 h1 h2 h3
    dsimp only at e2 e3 g3
    split at g3
    · rename_i hm
      simp only [Option.some.injEq, Prod.mk.injEq] at g3
      obtain ⟨rfl, rfl⟩ := g3
      refine ⟨?_, hm⟩
      unfold encR
      dsimp only
      rw [e1, e2, e3, data_bs, List.append_assoc, List.append_assoc]
    · cases g3
  · rintro ⟨rfl, hm⟩
    obtain ⟨i0, i1, i2⟩ := mayR_i64 hm
    have hs : x.f2.data.toList.length = x.f2.size := by simp
    unfold encR
    rw [List.append_assoc, List.append_assoc, dec_enc i0, Option.bind_some]
    dsimp only
    rw [dec_enc i1, Option.bind_some]
    dsimp only
    rw [ttext_ptext _ _ (by omega) 512 (by omega), Option.bind_some]
    dsimp only
    rw [bs_data, if_pos hm]
theorem decR_enc {x : S57} (h : mayR x = true) (r : List UInt8) : decR (encR x ++ r) = some (x, r) := (decR_iff _ _ _).2 ⟨rfl, h⟩
def takeRR : Option (S57 × List UInt8) → Int × Int × ByteArray × ByteArray × Int
  | some (x, r) => (x.f0, x.f1, x.f2, bs r, 0)
  | none => (0, 0, ⟨#[]⟩, ⟨#[]⟩, 2)
theorem textR_1 (a b : List UInt8) : (textR (some (a, b))).1 = bs a := rfl
theorem textR_2 (a b : List UInt8) : (textR (some (a, b))).2.1 = bs b := rfl
theorem textR_3 (a b : List UInt8) : (textR (some (a, b))).2.2 = 0 := rfl
theorem takeRec_eq (l : List UInt8) (hl : l.length ≤ 9000000000000000000) (k : Nat) (hk : 200 ≤ k) : batch_TakeRecord.f k (bs l) = some (takeRR (decR l)) := by
  unfold batch_TakeRecord.f decR
  rw [takeAll_eq l (by omega) 2 k hk, Option.bind_some]
  have h2 : takeAllR l 2 = allR (decN 2 l) := if_neg (by omega)
  rw [h2]
  cases hd : dec l with
  | none =>
    have : decN 2 l = none := by simp only [decN, hd, Option.bind_none]
    rw [this, Option.bind_none]
    rfl
  | some p =>
    obtain ⟨a, l1⟩ := p
    rw [Option.bind_some]
    dsimp only
    cases hd1 : dec l1 with
    | none =>
      have : decN 2 l = none := by simp only [decN, hd, hd1, Option.bind_some, Option.bind_none, Option.map_none]
      rw [this, Option.bind_none]
      rfl
    | some q =>
      obtain ⟨b, l2⟩ := q
      have e1 := (dec_iff _ _ _).1 hd
      have e2 := (dec_iff _ _ _).1 hd1
      have hl2 : l2.length ≤ l.length := by rw [e1.1, e2.1, List.length_append, List.length_append]; omega
      have : decN 2 l = some ([a, b], l2) := by simp only [decN, hd, hd1, Option.bind_some, Option.map_some]
      rw [this, Option.bind_some]
      show (if (0 : Int) = 0 then _ else _) = _
      rw [if_pos rfl]
      show (varint_TakeText.f (bs l2) 512).bind _ = _
      rw [takeText_eq l2 (by omega) 512, Option.bind_some]
      dsimp only
      cases ht : ttext l2 512 with
      | none => rfl
      | some t =>
        obtain ⟨t, l3⟩ := t
        rw [Option.bind_some, textR_1, textR_2, textR_3, if_pos rfl]
        show (if (0 : Int) < 2 then (if (1 : Int) < 2 then ((batch_may.f a b (bs t)).bind _) else _) else _) = _
        rw [if_pos (by decide), if_pos (by decide), may_eq ⟨a, b, bs t⟩, Option.bind_some]
        dsimp only
        cases hm : mayR ⟨a, b, bs t⟩ with
        | true => rw [if_pos rfl, if_pos rfl]; rfl
        | false => rw [if_neg (by decide), if_neg (by decide)]; rfl
theorem rtakeRec_eq (l : List UInt8) (hl : l.length ≤ 9000000000000000000) (k : Nat) (hk : 200 ≤ k) : headgateref06_TakeRecord.f k (bs l) = some (takeRR (decR l)) := by
  unfold headgateref06_TakeRecord.f decR
  rw [take_f l (by omega) k (by omega), Option.bind_some]
  cases hd : dec l with
  | none =>
    rw [takeR_n2, takeR_n3, take_f [] (by simp) k (by omega), Option.bind_some]
    have hn : dec [] = none := by decide
    rw [hn, takeR_n2, rtakeText_eq [] (by simp) 512 k (by omega), Option.bind_some, if_neg (by decide)]
    rfl
  | some p =>
    obtain ⟨a, l1⟩ := p
    have e1 := (dec_iff _ _ _).1 hd
    have hl1 : l1.length ≤ l.length := by rw [e1.1, List.length_append]; omega
    rw [takeR_1, takeR_2, takeR_3, take_f l1 (by omega) k (by omega), Option.bind_some, Option.bind_some]
    dsimp only
    cases hd1 : dec l1 with
    | none =>
      rw [takeR_n2, rtakeText_eq [] (by simp) 512 k (by omega), Option.bind_some, if_pos rfl, takeR_n3, if_neg (by decide)]
      rfl
    | some q =>
      obtain ⟨b, l2⟩ := q
      have e2 := (dec_iff _ _ _).1 hd1
      have hl2 : l2.length ≤ l1.length := by rw [e2.1, List.length_append]; omega
      rw [takeR_1, takeR_2, takeR_3, rtakeText_eq l2 (by omega) 512 k (by omega), Option.bind_some, Option.bind_some, if_pos rfl, if_pos rfl]
      dsimp only
      cases ht : ttext l2 512 with
      | none => rfl
      | some t =>
        obtain ⟨t, l3⟩ := t
        rw [Option.bind_some, textR_1, textR_2, textR_3, if_pos rfl, rmay_eq ⟨a, b, bs t⟩, Option.bind_some]
        dsimp only
        cases hm : mayR ⟨a, b, bs t⟩ with
        | true => rw [if_pos rfl, if_pos rfl]; rfl
        | false => rw [if_neg (by decide), if_neg (by decide)]; rfl
/-- So many records, with which bytes begin. -/
def decRs : Nat → List UInt8 → Option (List S57 × List UInt8)
  | 0, l => some ([], l)
  | n + 1, l => (decR l).bind fun p => (decRs n p.2).map fun q => (p.1 :: q.1, q.2)
theorem decRs_iff (n : Nat) : ∀ (l : List UInt8) (xs : List S57) (r : List UInt8), decRs n l = some (xs, r) ↔ l = xs.flatMap encR ++ r ∧ xs.length = n ∧ ∀ x ∈ xs, mayR x = true := by
  induction n with
  | zero =>
    intro l xs r
    simp only [decRs, Option.some.injEq, Prod.mk.injEq]
    constructor
    · rintro ⟨rfl, rfl⟩; simp
    · rintro ⟨h1, h2, -⟩
      obtain rfl := List.eq_nil_of_length_eq_zero h2
      simp at h1
      exact ⟨rfl, h1⟩
  | succ n ih =>
    intro l xs r
    simp only [decRs, Option.bind_eq_some_iff, Option.map_eq_some_iff, Prod.exists, Prod.mk.injEq]
    constructor
    · rintro ⟨x, l', hd, ys, r', hn, rfl, rfl⟩
      obtain ⟨rfl, hx⟩ := (decR_iff _ _ _).1 hd
      obtain ⟨rfl, hl, hall⟩ := (ih _ _ _).1 hn
      refine ⟨by simp, by simp [hl], fun y hy => ?_⟩
      rcases List.mem_cons.1 hy with rfl | hy
      · exact hx
      · exact hall y hy
    · rintro ⟨rfl, h2, h3⟩
      cases xs with
      | nil => simp at h2
      | cons x ys =>
        have hx := h3 x (List.mem_cons_self ..)
        refine ⟨x, ys.flatMap encR ++ r, ?_, ys, r, (ih _ _ _).2 ⟨rfl, by simpa using h2, fun y hy => h3 y (List.mem_cons_of_mem _ hy)⟩, rfl, rfl⟩
        rw [List.flatMap_cons, List.append_assoc]
        exact decR_enc hx _
abbrev BR := Int × Int × Int × Int × List S57 × Int
def bad : BR := (0, 0, 0, 0, [], 2)
/-- What the records behind a batch's head come to. -/
def tailB (kd p e s : Int) (acc : List S57) : Option (List S57 × List UInt8) → BR
  | some (xs, r) => if r = [] ∧ mayB kd p e s (acc ++ xs) = true then (kd, p, e, s, acc ++ xs, 0) else bad
  | none => bad
theorem takeRR_5s (x : S57) (r : List UInt8) : (takeRR (some (x, r))).2.2.2.2 = 0 := rfl
theorem takeRR_4s (x : S57) (r : List UInt8) : (takeRR (some (x, r))).2.2.2.1 = bs r := rfl
theorem takeRR_5n : (takeRR none).2.2.2.2 = 2 := rfl
theorem decode_l0 (kd p e s : Int) (d : Nat) : ∀ (l : List UInt8) (n i : Int) (acc : List S57) (k : Nat), l.length ≤ 9000000000000000000 → 0 ≤ i → i ≤ n → n ≤ 64 → n - i = d → acc.length ≤ 64 → acc.length + d ≤ 64 → d + 300 < k →
    batch_Decode.l0 k (bs l) n i kd p e s acc = some (tailB kd p e s acc (decRs d l)) := by
  induction d with
  | zero =>
    intro l n i acc k hl h0 h1 h64 hd ha had hk
    obtain ⟨k, rfl⟩ : ∃ m, k = m + 1 := ⟨k - 1, by omega⟩
    rw [batch_Decode.l0, if_neg (by omega), toList_bs]
    show _ = some (if l = [] ∧ mayB kd p e s (acc ++ []) = true then (kd, p, e, s, acc ++ [], 0) else bad)
    rw [List.append_nil]
    by_cases c : l = []
    · rw [if_pos c, check_eq kd p e s acc (by omega) k (by omega), Option.bind_some]
      by_cases c2 : mayB kd p e s acc = true
      · rw [if_pos c2, if_pos rfl, if_pos ⟨c, c2⟩]
      · rw [if_neg c2, if_neg (by decide), if_neg (fun h => c2 h.2)]; rfl
    · rw [if_neg c, if_neg (fun h => c h.1)]; rfl
  | succ d ih =>
    intro l n i acc k hl h0 h1 h64 hd ha had hk
    obtain ⟨k, rfl⟩ : ∃ m, k = m + 1 := ⟨k - 1, by omega⟩
    rw [batch_Decode.l0, if_pos (by omega), takeRec_eq l hl k (by omega), Option.bind_some]
    cases hr : decR l with
    | none =>
      rw [takeRR_5n, if_neg (by decide)]
      simp only [decRs, hr, Option.bind_none]
      rfl
    | some q =>
      obtain ⟨x, r⟩ := q
      have e1 := (decR_iff _ _ _).1 hr
      have hrl : r.length ≤ l.length := by rw [e1.1, List.length_append]; omega
      rw [takeRR_5s, takeRR_4s, if_pos rfl, if_pos (by omega), w64 (by omega) (by omega)]
      show batch_Decode.l0 k (bs r) n (i + 1) kd p e s (acc ++ [x]) = _
      rw [ih r n (i + 1) (acc ++ [x]) k (by omega) (by omega) (by omega) h64 (by omega) (by rw [List.length_append, List.length_singleton]; omega) (by rw [List.length_append, List.length_singleton]; omega) (by omega)]
      simp only [decRs, hr, Option.bind_some]
      cases decRs d r with
      | none => rfl
      | some q =>
        show some (tailB kd p e s (acc ++ [x]) (some (q.1, q.2))) = some (tailB kd p e s acc (some (x :: q.1, q.2)))
        simp only [tailB, List.append_assoc, List.singleton_append]
theorem rdecode_l0 (h : List Int) (h5 : h.length = 5) (kd p e s : Int) (d : Nat) : ∀ (l : List UInt8) (i : Int) (acc : List S57) (k : Nat), l.length ≤ 9000000000000000000 → 0 ≤ i → i ≤ rd h 4 → rd h 4 ≤ 64 → rd h 4 - i = d → acc.length ≤ 64 → acc.length + d ≤ 64 → d + 300 < k →
    headgateref06_Decode.l0 k h (bs l) i 0 0 0 0 kd p e s acc = some (tailB kd p e s acc (decRs d l)) := by
  induction d with
  | zero =>
    intro l i acc k hl h0 h1 h64 hd ha had hk
    obtain ⟨k, rfl⟩ : ∃ m, k = m + 1 := ⟨k - 1, by omega⟩
    rw [headgateref06_Decode.l0, if_pos (by omega), if_neg (by omega), size_bs]
    show _ = some (if l = [] ∧ mayB kd p e s (acc ++ []) = true then (kd, p, e, s, acc ++ [], 0) else bad)
    rw [List.append_nil]
    by_cases c : l = []
    · subst c
      rw [if_neg (by simp), rMay_eq kd p e s acc (by omega) k (by omega), Option.bind_some]
      by_cases c2 : mayB kd p e s acc = true
      · rw [if_pos c2, if_pos ⟨rfl, c2⟩]
      · rw [if_neg c2, if_neg (fun h => c2 h.2)]; rfl
    · have : 0 < l.length := List.length_pos_iff.2 c
      rw [if_pos (by omega), if_neg (fun h => c h.1)]; rfl
  | succ d ih =>
    intro l i acc k hl h0 h1 h64 hd ha had hk
    obtain ⟨k, rfl⟩ : ∃ m, k = m + 1 := ⟨k - 1, by omega⟩
    rw [headgateref06_Decode.l0, if_pos (by omega), if_pos (by omega), rtakeRec_eq l hl k (by omega), Option.bind_some]
    cases hr : decR l with
    | none =>
      rw [takeRR_5n, if_neg (by decide)]
      simp only [decRs, hr, Option.bind_none]
      rfl
    | some q =>
      obtain ⟨x, r⟩ := q
      have e1 := (decR_iff _ _ _).1 hr
      have hrl : r.length ≤ l.length := by rw [e1.1, List.length_append]; omega
      rw [takeRR_5s, takeRR_4s, if_pos rfl, if_pos (by omega), w64 (by omega) (by omega)]
      show headgateref06_Decode.l0 k h (bs r) (i + 1) 0 0 0 0 kd p e s (acc ++ [x]) = _
      rw [ih r (i + 1) (acc ++ [x]) k (by omega) (by omega) (by omega) h64 (by omega) (by rw [List.length_append, List.length_singleton]; omega) (by rw [List.length_append, List.length_singleton]; omega) (by omega)]
      simp only [decRs, hr, Option.bind_some]
      cases decRs d r with
      | none => rfl
      | some q =>
        show some (tailB kd p e s (acc ++ [x]) (some (q.1, q.2))) = some (tailB kd p e s acc (some (x :: q.1, q.2)))
        simp only [tailB, List.append_assoc, List.singleton_append]
def decBR (l : List UInt8) : BR := match decN 5 l with
  | some (h, r) => if rd h 4 < 0 ∨ rd h 4 > 64 then bad else tailB (rd h 0) (rd h 1) (rd h 2) (rd h 3) [] (decRs (rd h 4).toNat r)
  | none => bad
theorem decode_eq (l : List UInt8) (hl : l.length ≤ 9000000000000000000) (k : Nat) (hk : 500 ≤ k) : batch_Decode.f k (bs l) = some (decBR l) := by
  obtain ⟨k, rfl⟩ : ∃ m, k = m + 1 := ⟨k - 1, by omega⟩
  unfold batch_Decode.f decBR
  have jt : ∀ r h, batch_Decode.j0 (k + 1) r h true = some bad := fun r h => by rw [batch_Decode.j0, if_pos rfl]; rfl
  rw [takeAll_eq l (by omega) 5 _ (by omega), Option.bind_some, jt]
  have h2 : takeAllR l 5 = allR (decN 5 l) := if_neg (by omega)
  rw [h2]
  cases hd : decN 5 l with
  | none => rfl
  | some q =>
    obtain ⟨h, r⟩ := q
    obtain ⟨e1, h5, -⟩ := (decN_iff _ _ _ _).1 hd
    have hrl : r.length ≤ l.length := by rw [e1, List.length_append]; omega
    show (if (0 : Int) = 0 then (if (4 : Int) < (h.length : Int) then (if (rd h 4) < 0 then batch_Decode.j0 (k + 1) (bs r) h true else batch_Decode.j0 (k + 1) (bs r) h (decide ((rd h 4) > 64))) else none) else _) = _
    rw [if_pos rfl, if_pos (by omega)]
    by_cases c1 : rd h 4 < 0
    · rw [if_pos c1, jt]
      show some bad = some (if rd h 4 < 0 ∨ rd h 4 > 64 then bad else _)
      rw [if_pos (.inl c1)]
    · rw [if_neg c1]
      show _ = some (if rd h 4 < 0 ∨ rd h 4 > 64 then bad else tailB (rd h 0) (rd h 1) (rd h 2) (rd h 3) [] (decRs (rd h 4).toNat r))
      by_cases c2 : rd h 4 > 64
      · rw [decide_eq_true c2, jt, if_pos (.inr c2)]
      · rw [decide_eq_false c2, if_neg (by omega), batch_Decode.j0, if_neg (by decide), if_pos (by omega), if_pos (by omega), if_pos (by omega), if_pos (by omega), if_pos (by omega)]
        exact decode_l0 _ _ _ _ (rd h 4).toNat r (rd h 4) 0 [] k (by omega) (by omega) (by omega) (by omega) (by omega) (by simp) (by simp; omega) (by omega)
theorem rdecode_eq (l : List UInt8) (hl : l.length ≤ 9000000000000000000) (k : Nat) (hk : 500 ≤ k) : headgateref06_Decode.f k (bs l) = some (decBR l) := by
  obtain ⟨k, rfl⟩ : ∃ m, k = m + 1 := ⟨k - 1, by omega⟩
  unfold headgateref06_Decode.f decBR
  have jt : ∀ h r a b c d, headgateref06_Decode.j0 (k + 1) h r true 0 0 0 0 a b c d = some bad := fun h r a b c d => by rw [headgateref06_Decode.j0, if_pos rfl]; rfl
  rw [rtakeAll_eq l (by omega) 5 _ (by omega), Option.bind_some]
  have h2 : takeAllR l 5 = allR (decN 5 l) := if_neg (by omega)
  rw [h2]
  cases hd : decN 5 l with
  | none => rfl
  | some q =>
    obtain ⟨h, r⟩ := q
    obtain ⟨e1, h5, -⟩ := (decN_iff _ _ _ _).1 hd
    have hrl : r.length ≤ l.length := by rw [e1, List.length_append]; omega
    show (if (0 : Int) = 0 then (if (0 : Int) < (h.length : Int) then (if (1 : Int) < (h.length : Int) then (if (2 : Int) < (h.length : Int) then (if (3 : Int) < (h.length : Int) then (if (4 : Int) < (h.length : Int) then (if (rd h 4) < 0 then headgateref06_Decode.j0 (k + 1) h (bs r) true 0 0 0 0 (rd h 0) (rd h 1) (rd h 2) (rd h 3) else headgateref06_Decode.j0 (k + 1) h (bs r) (decide ((rd h 4) > 64)) 0 0 0 0 (rd h 0) (rd h 1) (rd h 2) (rd h 3)) else none) else none) else none) else none) else none) else _) = _
    rw [if_pos rfl, if_pos (by omega), if_pos (by omega), if_pos (by omega), if_pos (by omega), if_pos (by omega)]
    by_cases c1 : rd h 4 < 0
    · rw [if_pos c1, jt]
      show some bad = some (if rd h 4 < 0 ∨ rd h 4 > 64 then bad else _)
      rw [if_pos (.inl c1)]
    · rw [if_neg c1]
      show _ = some (if rd h 4 < 0 ∨ rd h 4 > 64 then bad else tailB (rd h 0) (rd h 1) (rd h 2) (rd h 3) [] (decRs (rd h 4).toNat r))
      by_cases c2 : rd h 4 > 64
      · rw [decide_eq_true c2, jt, if_pos (.inr c2)]
      · rw [decide_eq_false c2, if_neg (by omega), headgateref06_Decode.j0, if_neg (by decide)]
        exact rdecode_l0 h h5 _ _ _ _ (rd h 4).toNat r 0 [] k (by omega) (by omega) (by omega) (by omega) (by omega) (by simp) (by simp; omega) (by omega)
/-- What is read as a batch: it may be, and the bytes are its own. -/
theorem decBR_ok {l : List UInt8} {kd p e s c : Int} {xs : List S57} (h : decBR l = (kd, p, e, s, xs, c)) (h0 : c = 0) : mayB kd p e s xs = true ∧ l = encB kd p e s xs := by
  subst h0
  unfold decBR at h
  cases hd : decN 5 l with
  | none => rw [hd] at h; simp [bad] at h
  | some q =>
    obtain ⟨hh, r⟩ := q
    obtain ⟨e1, h5, -⟩ := (decN_iff _ _ _ _).1 hd
    rw [hd] at h
    dsimp only at h
    split at h
    · simp [bad] at h
    · rename_i hc
      cases hr : decRs (rd hh 4).toNat r with
      | none => rw [hr] at h; simp [bad, tailB] at h
      | some q =>
        obtain ⟨ys, r'⟩ := q
        obtain ⟨e2, hn, hm⟩ := (decRs_iff _ _ _ _).1 hr
        rw [hr] at h
        unfold tailB at h
        dsimp only at h
        split at h
        · rename_i hb
          obtain ⟨rfl, hb⟩ := hb
          simp only [List.nil_append, Prod.mk.injEq, and_true] at h hb
          obtain ⟨rfl, rfl, rfl, rfl, rfl⟩ := h
          refine ⟨hb, ?_⟩
          match hh, h5 with
          | [a0, a1, a2, a3, a4], _ =>
            have hr4 : rd [a0, a1, a2, a3, a4] 4 = a4 := rfl
            rw [hr4] at hn hc
            have h4 : a4 = (ys.length : Int) := by omega
            rw [e1, e2, List.append_nil, h4]
            rfl
        · simp [bad] at h
theorem decBR_enc {kd p e s : Int} {xs : List S57} (h : mayB kd p e s xs = true) : decBR (encB kd p e s xs) = (kd, p, e, s, xs, 0) := by
  obtain ⟨i1, i2, i3, i4, i5⟩ := mayB_i64 h
  obtain ⟨h1, h2, h3, h4⟩ := mayB_iff.1 h
  have hd : decN 5 (encB kd p e s xs) = some ([kd, p, e, s, (xs.length : Int)], xs.flatMap encR) := (decN_iff _ _ _ _).2 ⟨rfl, rfl, fun y hy => by
      rcases List.mem_cons.1 hy with rfl | hy; exact i1
      rcases List.mem_cons.1 hy with rfl | hy; exact i2
      rcases List.mem_cons.1 hy with rfl | hy; exact i3
      rcases List.mem_cons.1 hy with rfl | hy; exact i4
      rcases List.mem_cons.1 hy with rfl | hy; exact i5
      cases hy⟩
  have hr : decRs xs.length (xs.flatMap encR) = some (xs, []) := (decRs_iff _ _ _ _).2 ⟨(List.append_nil _).symm, rfl, h3⟩
  unfold decBR
  rw [hd]
  show (if (xs.length : Int) < 0 ∨ (xs.length : Int) > 64 then bad else tailB kd p e s [] (decRs ((xs.length : Int)).toNat (xs.flatMap encR))) = _
  rw [if_neg (by omega), Int.toNat_natCast, hr]
  show (if ([] : List UInt8) = [] ∧ mayB kd p e s ([] ++ xs) = true then (kd, p, e, s, [] ++ xs, 0) else bad) = _
  rw [List.nil_append, if_pos ⟨rfl, h⟩]
/-- Else: nothing's. -/
theorem decBR_or (l : List UInt8) : (decBR l).2.2.2.2.2 = 0 ∨ decBR l = bad := by
  unfold decBR
  cases decN 5 l with
  | none => exact .inr rfl
  | some q =>
    obtain ⟨h, r⟩ := q
    dsimp only
    split
    · exact .inr rfl
    · cases decRs (rd h 4).toNat r with
      | none => exact .inr rfl
      | some q =>
        obtain ⟨ys, r'⟩ := q
        unfold tailB
        dsimp only
        split
        · exact .inl rfl
        · exact .inr rfl
instance decS : DecidableEq S57 := fun x y => decidable_of_iff (x.f0 = y.f0 ∧ x.f1 = y.f1 ∧ x.f2 = y.f2) ⟨fun ⟨a, b, c⟩ => by obtain ⟨x0, x1, x2⟩ := x; obtain ⟨y0, y1, y2⟩ := y; dsimp only at a b c; rw [a, b, c], fun h => by rw [h]; exact ⟨rfl, rfl, rfl⟩⟩
theorem rsameR_l0 (a b : List S57) (hab : a.length = b.length) (ha : a.length ≤ 9223372036854775800) (d : Nat) : ∀ (i k : Nat), i ≤ a.length → a.length - i = d → d < k →
    headgateref06_SameRecords.l0 k a b (i : Int) = some (decide (a.drop i = b.drop i)) := by
  induction d with
  | zero =>
    intro i k hi hd hk
    obtain ⟨k, rfl⟩ : ∃ m, k = m + 1 := ⟨k - 1, by omega⟩
    rw [headgateref06_SameRecords.l0, if_neg (by omega), List.drop_of_length_le (by omega), List.drop_of_length_le (by omega)]
    rfl
  | succ d ih =>
    intro i k hi hd hk
    obtain ⟨k, rfl⟩ : ∃ m, k = m + 1 := ⟨k - 1, by omega⟩
    have h1 : i < a.length := by omega
    have h2 : i < b.length := by omega
    have e1 : wrap64 ((i : Int) + 1) = ((i + 1 : Nat) : Int) := by rw [w64 (by omega) (by omega)]; omega
    have hx : (!((a[i]).f0 == (b[i]).f0) || (!((a[i]).f1 == (b[i]).f1) || (!((a[i]).f2.toList == (b[i]).f2.toList)))) = !decide (a[i] = b[i]) := by
      generalize a[i] = x
      generalize b[i] = y
      obtain ⟨x0, x1, x2⟩ := x
      obtain ⟨y0, y1, y2⟩ := y
      have ht : x2.toList = y2.toList ↔ x2 = y2 := by
        rw [← bs_data x2, ← bs_data y2, toList_bs, toList_bs, bs_inj]
      by_cases q0 : x0 = y0 <;> by_cases q1 : x1 = y1 <;> by_cases q2 : x2 = y2 <;> simp [q0, q1, q2, ht]
    rw [headgateref06_SameRecords.l0, if_pos (by omega), if_pos (by omega), if_pos (by omega), rd_at a i h1, rd_at b i h2, hx, e1]
    have da := List.drop_eq_getElem_cons h1
    have db := List.drop_eq_getElem_cons h2
    by_cases hx : a[i] = b[i]
    · rw [decide_eq_true hx, if_neg (by decide), ih (i + 1) k (by omega) (by omega) (by omega), da, db, hx]
      refine congrArg some (decide_eq_decide.mpr ⟨fun h => by rw [h], fun h => (List.cons.inj h).2⟩)
    · rw [decide_eq_false hx, if_pos (by decide), da, db]
      exact congrArg some (decide_eq_false fun h => hx (List.cons.inj h).1).symm
theorem rsameB_eq (k1 p1 e1 s1 : Int) (a : List S57) (k2 p2 e2 s2 : Int) (b : List S57) (ha : a.length ≤ 9223372036854775800) (k : Nat) (hk : a.length < k) : headgateref06_Same.f k k1 p1 e1 s1 a k2 p2 e2 s2 b = some (decide (k1 = k2 ∧ p1 = p2 ∧ e1 = e2 ∧ s1 = s2 ∧ a = b)) := by
  have hs : headgateref06_SameRecords.f k a b = some (decide (a = b)) := by
    unfold headgateref06_SameRecords.f
    by_cases h : (a.length : Int) = (b.length : Int)
    · rw [if_pos h]
      exact rsameR_l0 a b (by omega) ha a.length 0 k (by omega) (by omega) hk
    · rw [if_neg h]
      have : a ≠ b := fun e => h (by rw [e])
      simp [this]
  unfold headgateref06_Same.f
  rw [hs, Option.bind_some]
  by_cases q0 : k1 = k2 <;> by_cases q1 : p1 = p2 <;> by_cases q2 : e1 = e2 <;> by_cases q3 : s1 = s2 <;> simp [q0, q1, q2, q3]
end Go.Proofs.Ytikbpjdgihheiaa.Bd
set_option linter.unusedVariables false
set_option linter.unusedSimpArgs false
namespace Go.Proofs.Ytikbpjdgihheiaa.Wr
open Go.RowKit Go.Proofs.Ytikbpjdgihheiaa.Vm Go.Proofs.Ytikbpjdgihheiaa.Vref Go.Proofs.Ytikbpjdgihheiaa.Vp Go.Proofs.Ytikbpjdgihheiaa.Bt Go.Proofs.Ytikbpjdgihheiaa.Be Go.Proofs.Ytikbpjdgihheiaa.Bd Go.Proofs.Ytikbpjdgihheiaa.P Go.Proofs.YtikbpjdgihheiaaW.PrintWords Go.Proofs.YtikbpjdgihheiaaW.PrintLast
def inN (n : Int) : Bool := decide (0 ≤ n ∧ n ≤ 1099511627776)
theorem inN_iff {n : Int} : inN n = true ↔ 0 ≤ n ∧ n ≤ 1099511627776 := by unfold inN; exact decide_eq_true_iff
theorem inN_no {n : Int} (h : ¬ (0 ≤ n ∧ n ≤ 1099511627776)) : inN n = false := decide_eq_false h
theorem within_eq (l : List Int) : wire_within.f l = some (l.all inN) := by
  unfold wire_within.f
  refine congrArg some ?_
  induction l with
  | nil => rfl
  | cons x r ih =>
    rw [List.any_cons, List.all_cons, Bool.not_or, ih]
    have : (!wire_within.p x) = inN x := by
      unfold wire_within.p inN
      rw [← decide_not]
      exact decide_eq_decide.mpr (by omega)
    rw [this]
theorem rd_int (l : List Int) (j : Nat) (h : j < l.length) : rd l (j : Int) = l[j] := by
  unfold rd
  rw [Int.toNat_natCast, List.getD_eq_getElem?_getD, List.getElem?_eq_getElem h]
  rfl
theorem rin_l0 (l : List Int) (hl : l.length ≤ 9223372036854775807) (d : Nat) : ∀ (j k : Nat), l.length - j = d → j ≤ l.length → d < k → headgateref18_in.l0 k l (j : Int) = some ((l.drop j).all inN) := by
  induction d with
  | zero =>
    intro j k hd hj hk
    obtain ⟨k, rfl⟩ : ∃ m, k = m + 1 := ⟨k - 1, by omega⟩
    rw [headgateref18_in.l0, if_neg (by omega), List.drop_of_length_le (by omega)]
    rfl
  | succ d ih =>
    intro j k hd hj hk
    obtain ⟨k, rfl⟩ : ∃ m, k = m + 1 := ⟨k - 1, by omega⟩
    have hjl : j < l.length := by omega
    have e1 : wrap64 ((j : Int) + 1) = ((j + 1 : Nat) : Int) := by rw [w64 (by omega) (by omega)]; omega
    rw [headgateref18_in.l0, if_pos (by omega), if_pos (by omega), rd_int l j hjl, e1, List.drop_eq_getElem_cons hjl, List.all_cons]
    by_cases c1 : l[j] < 0
    · rw [if_pos c1, inN_no (by omega)]; rfl
    · rw [if_neg c1]
      by_cases c2 : l[j] > 1099511627776
      · rw [if_pos c2, inN_no (by omega)]; rfl
      · rw [if_neg c2, ih (j + 1) k (by omega) (by omega) (by omega), inN_iff.2 (by omega), Bool.true_and]
theorem rin_eq (l : List Int) (hl : l.length ≤ 9223372036854775807) (k : Nat) (hk : l.length < k) : headgateref18_in.f k l = some (l.all inN) := by
  unfold headgateref18_in.f
  exact rin_l0 l hl l.length 0 k (by omega) (by omega) hk
theorem all3 (a b c : Int) : [a, b, c].all inN = decide (0 ≤ a ∧ a ≤ 1099511627776 ∧ 0 ≤ b ∧ b ≤ 1099511627776 ∧ 0 ≤ c ∧ c ≤ 1099511627776) := by
  show (inN a && (inN b && (inN c && true))) = _
  unfold inN
  rw [Bool.and_true, ← Bool.decide_and, ← Bool.decide_and]
  exact decide_eq_decide.mpr (by omega)
theorem all1 (a : Int) : [a].all inN = inN a := by
  show (inN a && true) = _
  rw [Bool.and_true]
theorem decR_encR (x : S57) (h0 : I64 x.f0) (h1 : I64 x.f1) (h2 : x.f2.size ≤ 9000000000000000000) : decR (encR x) = if mayR x = true then some (x, []) else none := by
  have hs : x.f2.data.toList.length = x.f2.size := by simp
  unfold decR encR
  rw [List.append_assoc, dec_enc h0, Option.bind_some]
  dsimp only
  rw [dec_enc h1, Option.bind_some]
  dsimp only
  rw [show ptext x.f2.data.toList = ptext x.f2.data.toList ++ [] from (List.append_nil _).symm]
  by_cases c : (x.f2.size : Int) ≤ 512
  · rw [ttext_ptext _ _ (by omega) 512 (by omega), Option.bind_some]
    dsimp only
    rw [bs_data]
  · rw [ttext_short _ _ (by omega) 512 (by omega), Option.bind_none, if_neg]
    intro h
    rw [mayR_iff] at h
    omega
def mayG (x : S59) : Bool := inN x.f0 && mayR x.f1
def encG (x : S59) : List UInt8 := enc x.f0 ++ encR x.f1
def okG (x : S59) : Prop := I64 x.f0 ∧ I64 x.f1.f0 ∧ I64 x.f1.f1 ∧ x.f1.f2.size ≤ 900000
theorem mayG_iff {x : S59} : mayG x = true ↔ inN x.f0 = true ∧ mayR x.f1 = true := by unfold mayG; rw [Bool.and_eq_true]
theorem gp_eq (k : Nat) (hk : 200 ≤ k) (l : List S59) (h : ∀ x ∈ l, okG x) : wire_EncodeReply.g k l = some (if l.all mayG = true then some (l.flatMap encG) else none) := by
  induction l with
  | nil => rfl
  | cons x r ih =>
    obtain ⟨h0, h1, h2, h3⟩ := h x (List.mem_cons_self ..)
    have e1 := encR_len x.f1
    have e2 := (enc_len x.f0).2
    have ih' := ih fun y hy => h y (List.mem_cons_of_mem _ hy)
    rw [wire_EncodeReply.g, put2 x.f1 h1 h2 (by omega), Option.bind_some, takeRec_eq _ (by omega) k hk, Option.bind_some, decR_encR _ h1 h2 (by omega), List.all_cons]
    by_cases c : mayR x.f1 = true
    · rw [if_pos c, takeRR_5s, if_pos rfl, within_eq, Option.bind_some, all1]
      by_cases c2 : inN x.f0 = true
      · rw [if_pos c2, put_eq h0, Option.bind_some, if_pos (by rw [size_bs, size_bs]; omega), ih', Option.bind_some, mayG_iff.2 ⟨c2, c⟩, Bool.true_and]
        by_cases c3 : r.all mayG = true
        · rw [if_pos c3, if_pos c3, data_bs, data_bs, List.flatMap_cons]; rfl
        · rw [if_neg c3, if_neg c3]; rfl
      · have : mayG x = false := Bool.eq_false_iff.2 fun e => c2 (mayG_iff.1 e).1
        rw [if_neg c2, this, Bool.false_and, if_neg (by decide)]
    · have : mayG x = false := Bool.eq_false_iff.2 fun e => c (mayG_iff.1 e).2
      rw [if_neg c, takeRR_5n, if_neg (by decide), this, Bool.false_and, if_neg (by decide)]
def mayP (a0 a1 a2 a3 : Int) (n : List Int) (l : List S59) : Bool :=
  (decide (0 ≤ a0 ∧ a0 ≤ 1099511627776 ∧ 0 ≤ a2 ∧ a2 ≤ 1099511627776 ∧ 0 ≤ a3 ∧ a3 ≤ 1099511627776 ∧ 0 ≤ a1 ∧ a1 ≤ 255 ∧ n.length ≤ 64 ∧ l.length ≤ 2048) && n.all inN) && l.all mayG
theorem mayP_iff {a0 a1 a2 a3 : Int} {n : List Int} {l : List S59} : mayP a0 a1 a2 a3 n l = true ↔ (0 ≤ a0 ∧ a0 ≤ 1099511627776 ∧ 0 ≤ a2 ∧ a2 ≤ 1099511627776 ∧ 0 ≤ a3 ∧ a3 ≤ 1099511627776 ∧ 0 ≤ a1 ∧ a1 ≤ 255 ∧ n.length ≤ 64 ∧ l.length ≤ 2048) ∧ n.all inN = true ∧ l.all mayG = true := by
  unfold mayP
  rw [Bool.and_eq_true, Bool.and_eq_true, decide_eq_true_iff, and_assoc]
def encP (a0 a1 a2 a3 : Int) (n : List Int) (l : List S59) : List UInt8 := (([a0, a1, a2, a3, (n.length : Int)].flatMap enc ++ n.flatMap enc) ++ enc (l.length : Int)) ++ l.flatMap encG
def encodeP (a0 a1 a2 a3 : Int) (n : List Int) (l : List S59) : ByteArray × Int := if mayP a0 a1 a2 a3 n l = true then (bs (encP a0 a1 a2 a3 n l), 0) else (bs [], 1)
theorem encodeP_no {a0 a1 a2 a3 : Int} {n : List Int} {l : List S59} (h : ¬ mayP a0 a1 a2 a3 n l = true) : some ((⟨#[]⟩ : ByteArray), (1 : Int)) = some (encodeP a0 a1 a2 a3 n l) := by
  unfold encodeP
  rw [if_neg h]
  rfl
theorem flat_enc_len (n : List Int) : (n.flatMap enc).length ≤ 10 * n.length := by
  induction n with
  | nil => simp
  | cons x r ih =>
    have := (enc_len x).2
    rw [List.flatMap_cons, List.length_append, List.length_cons]
    omega
theorem inN_i64 {n : Int} (h : inN n = true) : I64 n := by
  rw [inN_iff] at h
  unfold I64
  omega
theorem five_i64 {a b c d e : Int} (h1 : I64 a) (h2 : I64 b) (h3 : I64 c) (h4 : I64 d) (h5 : I64 e) : ∀ y ∈ [a, b, c, d, e], I64 y := fun y hy => by
  rcases List.mem_cons.1 hy with rfl | hy; exact h1
  rcases List.mem_cons.1 hy with rfl | hy; exact h2
  rcases List.mem_cons.1 hy with rfl | hy; exact h3
  rcases List.mem_cons.1 hy with rfl | hy; exact h4
  rcases List.mem_cons.1 hy with rfl | hy; exact h5
  cases hy
theorem encodeReply_eq (a0 a1 a2 a3 : Int) (n : List Int) (l : List S59) (h : ∀ x ∈ l, okG x) (k : Nat) (hk : 200 ≤ k) : wire_EncodeReply.f k a0 a1 a2 a3 n l = some (encodeP a0 a1 a2 a3 n l) := by
  unfold wire_EncodeReply.f
  rw [within_eq, Option.bind_some, all3]
  by_cases c1 : 0 ≤ a0 ∧ a0 ≤ 1099511627776 ∧ 0 ≤ a2 ∧ a2 ≤ 1099511627776 ∧ 0 ≤ a3 ∧ a3 ≤ 1099511627776
  · rw [decide_eq_true c1, if_pos rfl]
    by_cases c2 : a1 < 0
    · rw [if_pos c2]; exact encodeP_no fun h => by have := mayP_iff.1 h; omega
    · rw [if_neg c2]
      by_cases c3 : 255 < a1
      · rw [if_pos c3]; exact encodeP_no fun h => by have := mayP_iff.1 h; omega
      · rw [if_neg c3]
        by_cases c4 : 64 < n.length
        · rw [if_pos c4]; exact encodeP_no fun h => by have := mayP_iff.1 h; omega
        · rw [if_neg c4, within_eq, Option.bind_some]
          by_cases c5 : n.all inN = true
          · rw [if_pos c5]
            by_cases c6 : 2048 < l.length
            · rw [if_pos c6]; exact encodeP_no fun h => by have := mayP_iff.1 h; omega
            · have i0 : I64 a0 := by unfold I64; omega
              have i1 : I64 a1 := by unfold I64; omega
              have i2 : I64 a2 := by unfold I64; omega
              have i3 : I64 a3 := by unfold I64; omega
              have i4 : I64 (n.length : Int) := by unfold I64; omega
              have i5 : I64 (l.length : Int) := by unfold I64; omega
              have s1 := five_len a0 a1 a2 a3 (n.length : Int)
              have s2 := flat_enc_len n
              have s3 := (enc_len (l.length : Int)).2
              rw [if_neg c6, putAll_eq _ (by simp) (five_i64 i0 i1 i2 i3 i4), Option.bind_some, putAll_eq n (by omega) (fun y hy => inN_i64 (List.all_eq_true.1 c5 y hy)), Option.bind_some, put_eq i5, Option.bind_some, if_pos (by rw [size_bs, size_bs, size_bs]; omega), gp_eq k hk l h, Option.bind_some]
              by_cases c7 : l.all mayG = true
              · rw [if_pos c7]
                unfold encodeP
                rw [if_pos (mayP_iff.2 ⟨by omega, c5, c7⟩)]
                simp only [data_bs]
                rfl
              · rw [if_neg c7]; exact encodeP_no fun h => c7 (mayP_iff.1 h).2.2
          · rw [if_neg c5]; exact encodeP_no fun h => c5 (mayP_iff.1 h).2.1
  · rw [decide_eq_false c1, if_neg (by decide)]; exact encodeP_no fun h => by have := mayP_iff.1 h; omega
instance decT : DecidableEq S59 := fun x y => decidable_of_iff (x.f0 = y.f0 ∧ x.f1 = y.f1) ⟨fun ⟨a, b⟩ => by obtain ⟨x0, x1⟩ := x; obtain ⟨y0, y1⟩ := y; dsimp only at a b; rw [a, b], fun h => by rw [h]; exact ⟨rfl, rfl⟩⟩
end Go.Proofs.Ytikbpjdgihheiaa.Wr
set_option linter.unusedVariables false
set_option linter.unusedSimpArgs false
namespace Go.Proofs.Ytikbpjdgihheiaa.Wa
open Go.RowKit Go.Proofs.Ytikbpjdgihheiaa.Vm Go.Proofs.Ytikbpjdgihheiaa.Vref Go.Proofs.Ytikbpjdgihheiaa.Vp Go.Proofs.Ytikbpjdgihheiaa.Bt Go.Proofs.Ytikbpjdgihheiaa.Be Go.Proofs.Ytikbpjdgihheiaa.Bd Go.Proofs.Ytikbpjdgihheiaa.Wr Go.Proofs.Ytikbpjdgihheiaa.P Go.Proofs.YtikbpjdgihheiaaW.PrintWords Go.Proofs.YtikbpjdgihheiaaW.PrintLast
def vals (x : S43) : List Int := [x.f2, x.f3, x.f4, x.f5, x.f6, x.f7, x.f8, x.f9, x.f10, x.f11, if x.f12 = true then 1 else 0]
def ws (kd : Int) : List Int := if kd = 1 then [0] else if kd = 2 then [0, 1, 2] else if kd = 3 then [3] else if kd = 7 then [3] else if kd = 4 then [0, 1, 4, 5, 3, 6, 7] else if kd = 5 then [0, 1, 10] else if kd = 6 then [3, 7, 8, 10] else if kd = 8 then [9] else if kd = 9 then [4] else if kd = 11 then [4] else if kd = 10 then [4, 5] else []
def zb (b0 b1 b2 b3 : Int) (l : List S57) : Bool := decide (b0 = 0 ∧ b1 = 0 ∧ b2 = 0 ∧ b3 = 0 ∧ l.length = 0)
def mayV (kd id : Int) (V : List Int) : Bool := (decide (1 ≤ kd ∧ kd ≤ 11) && inN id) && (V.all inN && (List.range' 0 11).all fun i => (ws kd).contains (i : Int) || rd V (i : Int) == 0)
def mayC (kd b0 b1 b2 b3 : Int) (l : List S57) : Bool := if kd = 3 then mayB b0 b1 b2 b3 l else zb b0 b1 b2 b3 l
def mayA (x : S43) : Bool := mayV x.f0 x.f1 (vals x) && mayC x.f0 x.f13.f0 x.f13.f1 x.f13.f2 x.f13.f3 x.f13.f4
def encV (kd id : Int) (V : List Int) : List UInt8 := enc kd ++ enc id ++ (ws kd).flatMap fun p => enc (rd V p)
def encC (kd b0 b1 b2 b3 : Int) (l : List S57) : List UInt8 := if kd = 3 then ptext (encB b0 b1 b2 b3 l) else []
def encA (x : S43) : List UInt8 := encV x.f0 x.f1 (vals x) ++ encC x.f0 x.f13.f0 x.f13.f1 x.f13.f2 x.f13.f3 x.f13.f4
def encodeA (x : S43) : ByteArray × Int := if mayA x = true then (bs (encA x), 0) else (bs [], 1)
def okA (x : S43) : Prop := I64 x.f0 ∧ I64 x.f1 ∧ (∀ v ∈ vals x, I64 v) ∧ x.f13.f4.length ≤ 9223372036854775807
theorem kinds {kd : Int} (h : 1 ≤ kd ∧ kd ≤ 11) : kd = 1 ∨ kd = 2 ∨ kd = 3 ∨ kd = 4 ∨ kd = 5 ∨ kd = 6 ∨ kd = 7 ∨ kd = 8 ∨ kd = 9 ∨ kd = 10 ∨ kd = 11 := by omega
theorem ws_no {kd : Int} (h : ¬ (1 ≤ kd ∧ kd ≤ 11)) : ws kd = [] := by
  unfold ws
  rw [if_neg (by omega), if_neg (by omega), if_neg (by omega), if_neg (by omega), if_neg (by omega), if_neg (by omega), if_neg (by omega), if_neg (by omega), if_neg (by omega), if_neg (by omega), if_neg (by omega)]
theorem mayA_iff {x : S43} : mayA x = true ↔ mayV x.f0 x.f1 (vals x) = true ∧ mayC x.f0 x.f13.f0 x.f13.f1 x.f13.f2 x.f13.f3 x.f13.f4 = true := by unfold mayA; rw [Bool.and_eq_true]
theorem mayV_kd {kd id : Int} {V : List Int} (h : mayV kd id V = true) : 1 ≤ kd ∧ kd ≤ 11 := by
  unfold mayV at h
  rw [Bool.and_eq_true, Bool.and_eq_true, decide_eq_true_iff] at h
  exact h.1.1
theorem mayV_id {kd id : Int} {V : List Int} (h : mayV kd id V = true) : inN id = true := by
  unfold mayV at h
  rw [Bool.and_eq_true, Bool.and_eq_true] at h
  exact h.1.2
theorem mayV_in {kd id : Int} {V : List Int} (h : mayV kd id V = true) : ∀ v ∈ V, inN v = true := by
  unfold mayV at h
  rw [Bool.and_eq_true, Bool.and_eq_true, Bool.and_eq_true, List.all_eq_true] at h
  exact h.2.1
theorem encodeA_no {x : S43} (h : ¬ mayA x = true) : some ((⟨#[]⟩ : ByteArray), (1 : Int)) = some (encodeA x) := by
  unfold encodeA
  rw [if_neg h]
  rfl
def upd (F : Int → Int) (o v : Int) : Int → Int := fun i => if o = i then v else F i
def col : (Int → Int) → List Int → List Int
  | _, [] => []
  | F, o :: r => F o :: col (upd F o 0) r
def clr : (Int → Int) → List Int → Int → Int
  | F, [] => F
  | F, o :: r => clr (upd F o 0) r
theorem col_len (os : List Int) : ∀ F, (col F os).length = os.length := by
  induction os with
  | nil => intro F; rfl
  | cons o r ih => intro F; rw [col, List.length_cons, List.length_cons, ih]
theorem fget_F (F : Int → Int) (o : Int) (h2 : 2 ≤ o) (h11 : o ≤ 11) : Kp.fget o (F 2) (F 3) (F 4) (F 5) (F 6) (F 7) (F 8) (F 9) (F 10) (F 11) = F o := by
  rcases (show o = 2 ∨ o = 3 ∨ o = 4 ∨ o = 5 ∨ o = 6 ∨ o = 7 ∨ o = 8 ∨ o = 9 ∨ o = 10 ∨ o = 11 by omega) with rfl | rfl | rfl | rfl | rfl | rfl | rfl | rfl | rfl | rfl <;> rfl
theorem enc_l0 (os : List Int) (hos : ∀ o ∈ os, 2 ≤ o ∧ o ≤ 11) (hl : os.length ≤ 100) (kd id : Int) (yes : Bool) (b0 b1 b2 b3 : Int) (l : List S57) (d : Nat) : ∀ (j k : Nat) (n : List Int) (F : Int → Int), os.length - j = d → j ≤ os.length → d < k → n.length + d ≤ 1000 →
    wire_EncodeAsk.l0 k n os (os.length : Int) (j : Int) kd id (F 2) (F 3) (F 4) (F 5) (F 6) (F 7) (F 8) (F 9) (F 10) (F 11) yes b0 b1 b2 b3 l = wire_EncodeAsk.l0 (k - d) (n ++ col F (os.drop j)) os (os.length : Int) (os.length : Int) kd id (clr F (os.drop j) 2) (clr F (os.drop j) 3) (clr F (os.drop j) 4) (clr F (os.drop j) 5) (clr F (os.drop j) 6) (clr F (os.drop j) 7) (clr F (os.drop j) 8) (clr F (os.drop j) 9) (clr F (os.drop j) 10) (clr F (os.drop j) 11) yes b0 b1 b2 b3 l := by
  induction d with
  | zero =>
    intro j k n F hd hj hk hn
    obtain rfl : j = os.length := by omega
    rw [List.drop_length, col, List.append_nil, clr]
    rfl
  | succ d ih =>
    intro j k n F hd hj hk hn
    obtain ⟨k, rfl⟩ : ∃ m, k = m + 1 := ⟨k - 1, by omega⟩
    have hjl : j < os.length := by omega
    have e1 : wrap64 ((j : Int) + 1) = ((j + 1 : Nat) : Int) := by rw [w64 (by omega) (by omega)]; omega
    obtain ⟨h2, h11⟩ := hos os[j] (List.getElem_mem hjl)
    have := ih (j + 1) k (n ++ [F os[j]]) (upd F os[j] 0) (by omega) (by omega) (by omega) (by rw [List.length_append, List.length_singleton]; omega)
    rw [show k + 1 - (d + 1) = k - d by omega, List.drop_eq_getElem_cons hjl, col, clr, show n ++ F os[j] :: col (upd F os[j] 0) (os.drop (j + 1)) = (n ++ [F os[j]]) ++ col (upd F os[j] 0) (os.drop (j + 1)) by simp, ← this]
    rw [wire_EncodeAsk.l0, if_pos (by omega), if_pos (by omega), if_pos (by omega), rd_int os j hjl, if_pos h2, if_pos h11, if_pos (by omega), e1, fget_F F _ h2 h11]
    rfl
def bareB (a2 a3 a4 a5 a6 a7 a8 a9 a10 a11 : Int) (yes : Bool) : Bool := decide (yes = false ∧ a2 = 0 ∧ a3 = 0 ∧ a4 = 0 ∧ a5 = 0 ∧ a6 = 0 ∧ a7 = 0 ∧ a8 = 0 ∧ a9 = 0 ∧ a10 = 0 ∧ a11 = 0)
theorem bare_eq (kd id a2 a3 a4 a5 a6 a7 a8 a9 a10 a11 : Int) (yes : Bool) (b0 b1 b2 b3 : Int) (l : List S57) : wire_bare.f kd id a2 a3 a4 a5 a6 a7 a8 a9 a10 a11 yes b0 b1 b2 b3 l = some (bareB a2 a3 a4 a5 a6 a7 a8 a9 a10 a11 yes) := by
  unfold wire_bare.f bareB
  cases yes
  · rw [if_neg (by decide)]
    by_cases h2 : a2 = 0
    · rw [if_pos h2]
      by_cases h3 : a3 = 0
      · rw [if_pos h3]
        by_cases h4 : a4 = 0
        · rw [if_pos h4]
          by_cases h5 : a5 = 0
          · rw [if_pos h5]
            by_cases h6 : a6 = 0
            · rw [if_pos h6]
              by_cases h7 : a7 = 0
              · rw [if_pos h7]
                by_cases h8 : a8 = 0
                · rw [if_pos h8]
                  by_cases h9 : a9 = 0
                  · rw [if_pos h9]
                    by_cases h10 : a10 = 0
                    · rw [if_pos h10]
                      by_cases h11 : a11 = 0
                      · simp [h2, h3, h4, h5, h6, h7, h8, h9, h10, h11]
                      · simp [h2, h3, h4, h5, h6, h7, h8, h9, h10, h11]
                    · rw [if_neg h10]; simp [h10]
                  · rw [if_neg h9]; simp [h9]
                · rw [if_neg h8]; simp [h8]
              · rw [if_neg h7]; simp [h7]
            · rw [if_neg h6]; simp [h6]
          · rw [if_neg h5]; simp [h5]
        · rw [if_neg h4]; simp [h4]
      · rw [if_neg h3]; simp [h3]
    · rw [if_neg h2]; simp [h2]
  · rw [if_pos rfl]; simp
theorem zb_eq (k : Nat) (b0 b1 b2 b3 : Int) (l : List S57) (s : ByteArray) : (if b0 = 0 then (if b1 = 0 then (if b2 = 0 then (if b3 = 0 then (wire_EncodeAsk.j4 (k + 1) s (decide ((l.length : Int) > 0))) else (wire_EncodeAsk.j4 (k + 1) s true)) else (wire_EncodeAsk.j4 (k + 1) s true)) else (wire_EncodeAsk.j4 (k + 1) s true)) else (wire_EncodeAsk.j4 (k + 1) s true)) = some (if zb b0 b1 b2 b3 l = true then (s, 0) else (bs [], 1)) := by
  have jt : wire_EncodeAsk.j4 (k + 1) s true = some (bs [], 1) := by rw [wire_EncodeAsk.j4, if_pos rfl]; rfl
  have no : ¬ (b0 = 0 ∧ b1 = 0 ∧ b2 = 0 ∧ b3 = 0 ∧ l.length = 0) → some (bs [], (1 : Int)) = some (if zb b0 b1 b2 b3 l = true then (s, 0) else (bs [], 1)) := fun h => by unfold zb; rw [decide_eq_false h, if_neg (by decide)]
  rw [jt]
  by_cases h0 : b0 = 0
  · rw [if_pos h0]
    by_cases h1 : b1 = 0
    · rw [if_pos h1]
      by_cases h2 : b2 = 0
      · rw [if_pos h2]
        by_cases h3 : b3 = 0
        · rw [if_pos h3]
          by_cases h4 : l.length = 0
          · unfold zb
            rw [wire_EncodeAsk.j4, decide_eq_false (by omega), if_neg (by decide), decide_eq_true ⟨h0, h1, h2, h3, h4⟩, if_pos rfl]
          · rw [decide_eq_true (by omega), jt]; exact no (by omega)
        · rw [if_neg h3]; exact no (by omega)
      · rw [if_neg h2]; exact no (by omega)
    · rw [if_neg h1]; exact no (by omega)
  · rw [if_neg h0]; exact no (by omega)
theorem enc_j2 (k : Nat) (n : List Int) (hn : n.length ≤ 1000) (hi : ∀ v ∈ n, I64 v) (kd id a2 a3 a4 a5 a6 a7 a8 a9 a10 a11 : Int) (yes : Bool) (b0 b1 b2 b3 : Int) (l : List S57) (hl : l.length ≤ 9223372036854775807) (hk : l.length + 20 < k) :
    wire_EncodeAsk.j2 k n kd id a2 a3 a4 a5 a6 a7 a8 a9 a10 a11 yes b0 b1 b2 b3 l = some (if ((n.all inN && bareB a2 a3 a4 a5 a6 a7 a8 a9 a10 a11 yes) && mayC kd b0 b1 b2 b3 l) = true then (bs (n.flatMap enc ++ encC kd b0 b1 b2 b3 l), 0) else (bs [], 1)) := by
  obtain ⟨k, rfl⟩ : ∃ m, k = m + 1 + 1 := ⟨k - 2, by omega⟩
  have jt : ∀ s, wire_EncodeAsk.j3 (k + 1) s true = some (bs [], 1) := fun s => by rw [wire_EncodeAsk.j3, if_pos rfl]; rfl
  have jt4 : ∀ s, wire_EncodeAsk.j4 (k + 1) s true = some (bs [], 1) := fun s => by rw [wire_EncodeAsk.j4, if_pos rfl]; rfl
  have hf := flat_enc_len n
  unfold mayC encC
  rw [wire_EncodeAsk.j2, putAll_eq n (by omega) hi, Option.bind_some]
  by_cases c : kd = 3
  · rw [if_pos c, if_pos c, if_pos c, encode_eq b0 b1 b2 b3 l hl _ (by omega), Option.bind_some]
    unfold encodeR
    by_cases m : mayB b0 b1 b2 b3 l = true
    · have hb := encB_len m
      rw [if_pos m, if_pos rfl]
      dsimp only
      have ht := ptext_len (encB b0 b1 b2 b3 l)
      rw [putText_eq _ (by omega), Option.bind_some, if_pos (by rw [size_bs, size_bs]; omega), within_eq, Option.bind_some, bare_eq, Option.bind_some, jt, m, Bool.and_true, append_bs]
      by_cases c2 : n.all inN = true
      · rw [if_pos c2, c2, Bool.true_and]
        by_cases c3 : bareB a2 a3 a4 a5 a6 a7 a8 a9 a10 a11 yes = true
        · rw [if_pos c3, if_pos c3, if_pos rfl, wire_EncodeAsk.j3]
          rfl
        · rw [if_neg c3, if_neg c3]
      · rw [if_neg c2, Bool.eq_false_iff.2 c2, Bool.false_and, if_neg (by decide)]
    · rw [if_neg m, if_neg (by decide), Bool.eq_false_iff.2 m, Bool.and_false, if_neg (by decide)]
      rfl
  · rw [if_neg c, if_neg c, if_neg c, within_eq, Option.bind_some, bare_eq, Option.bind_some, zb_eq, jt4, List.append_nil]
    by_cases c2 : n.all inN = true
    · rw [if_pos c2, c2, Bool.true_and]
      by_cases c3 : bareB a2 a3 a4 a5 a6 a7 a8 a9 a10 a11 yes = true
      · rw [if_pos c3, c3, Bool.true_and]
      · rw [if_neg c3, Bool.eq_false_iff.2 c3, Bool.false_and, if_neg (by decide)]
    · rw [if_neg c2, Bool.eq_false_iff.2 c2, Bool.false_and, Bool.false_and, if_neg (by decide)]
def flg (kd : Int) : Bool := decide (kd = 5 ∨ kd = 6)
theorem flagged_eq (kd : Int) : wire_flagged.f kd = some (flg kd) := by
  unfold wire_flagged.f flg
  by_cases h : kd = 5
  · rw [if_pos h, decide_eq_true (.inl h)]
  · rw [if_neg h]
    by_cases h2 : kd = 6
    · simp [h2]
    · simp [h, h2]
def numsA (kd id : Int) (F : Int → Int) (yes : Bool) : List Int := ([kd, id] ++ col F (wire_fields.o kd)) ++ if flg kd = true then [if yes = true then 1 else 0] else []
theorem enc_end (os : List Int) (k : Nat) (n : List Int) (hn : n.length ≤ 900) (hi : ∀ v ∈ n, I64 v) (kd id a2 a3 a4 a5 a6 a7 a8 a9 a10 a11 : Int) (yes : Bool) (b0 b1 b2 b3 : Int) (l : List S57) (hl : l.length ≤ 9223372036854775807) (hk : l.length + 30 < k) :
    wire_EncodeAsk.l0 k n os (os.length : Int) (os.length : Int) kd id a2 a3 a4 a5 a6 a7 a8 a9 a10 a11 yes b0 b1 b2 b3 l = some (if (((n ++ if flg kd = true then [if yes = true then 1 else 0] else []).all inN && bareB a2 a3 a4 a5 a6 a7 a8 a9 a10 a11 (!flg kd && yes)) && mayC kd b0 b1 b2 b3 l) = true then (bs ((n ++ if flg kd = true then [if yes = true then 1 else 0] else []).flatMap enc ++ encC kd b0 b1 b2 b3 l), 0) else (bs [], 1)) := by
  obtain ⟨k, rfl⟩ : ∃ m, k = m + 1 := ⟨k - 1, by omega⟩
  rw [wire_EncodeAsk.l0, if_neg (by omega), flagged_eq, Option.bind_some]
  have one : ∀ v : Int, I64 v → ∀ y ∈ n ++ [v], I64 y := fun v hv y hy => by
    rcases List.mem_append.1 hy with hy | hy
    · exact hi y hy
    · rw [List.mem_singleton.1 hy]; exact hv
  cases hf : flg kd with
  | true =>
    rw [if_pos rfl, if_pos rfl]
    cases yes with
    | true =>
      rw [if_pos rfl, if_pos rfl, if_pos (by omega), enc_j2 k _ (by rw [List.length_append, List.length_singleton]; omega) (one 1 (by unfold I64; omega)) _ _ _ _ _ _ _ _ _ _ _ _ _ _ _ _ _ _ hl (by omega)]
      rfl
    | false =>
      simp only [Bool.false_eq_true, if_false]
      rw [if_pos (by omega), enc_j2 k _ (by rw [List.length_append, List.length_singleton]; omega) (one 0 (by unfold I64; omega)) _ _ _ _ _ _ _ _ _ _ _ _ _ _ _ _ _ _ hl (by omega)]
      rfl
  | false =>
    simp only [Bool.false_eq_true, if_false]
    rw [List.append_nil, enc_j2 k _ (by omega) hi _ _ _ _ _ _ _ _ _ _ _ _ _ _ _ _ _ _ hl (by omega)]
    rfl
theorem ofs_bd (kd : Int) : ∀ o ∈ wire_fields.o kd, 2 ≤ o ∧ o ≤ 11 := by
  by_cases h : 1 ≤ kd ∧ kd ≤ 11
  · rcases kinds h with rfl | rfl | rfl | rfl | rfl | rfl | rfl | rfl | rfl | rfl | rfl <;> decide
  · have : wire_fields.o kd = [] := by
      unfold wire_fields.o
      rw [if_neg (by omega), if_neg (by omega), if_neg (by omega), if_neg (by omega), if_neg (by omega), if_neg (by omega), if_neg (by omega), if_neg (by omega), if_neg (by omega)]
    rw [this]
    intro o ho
    cases ho
theorem ofs_len (kd : Int) : (wire_fields.o kd).length ≤ 7 := by
  by_cases h : 1 ≤ kd ∧ kd ≤ 11
  · rcases kinds h with rfl | rfl | rfl | rfl | rfl | rfl | rfl | rfl | rfl | rfl | rfl <;> decide
  · have : wire_fields.o kd = [] := by
      unfold wire_fields.o
      rw [if_neg (by omega), if_neg (by omega), if_neg (by omega), if_neg (by omega), if_neg (by omega), if_neg (by omega), if_neg (by omega), if_neg (by omega), if_neg (by omega)]
    rw [this]
    decide
def FV (V : List Int) : Int → Int := fun i => rd V (i - 2)
theorem nums_may (kd id v0 v1 v2 v3 v4 v5 v6 v7 v8 v9 : Int) (yes : Bool) (h : 1 ≤ kd ∧ kd ≤ 11) : ((numsA kd id (FV [v0, v1, v2, v3, v4, v5, v6, v7, v8, v9, if yes = true then 1 else 0]) yes).all inN && bareB (clr (FV [v0, v1, v2, v3, v4, v5, v6, v7, v8, v9, if yes = true then 1 else 0]) (wire_fields.o kd) 2) (clr (FV [v0, v1, v2, v3, v4, v5, v6, v7, v8, v9, if yes = true then 1 else 0]) (wire_fields.o kd) 3) (clr (FV [v0, v1, v2, v3, v4, v5, v6, v7, v8, v9, if yes = true then 1 else 0]) (wire_fields.o kd) 4) (clr (FV [v0, v1, v2, v3, v4, v5, v6, v7, v8, v9, if yes = true then 1 else 0]) (wire_fields.o kd) 5) (clr (FV [v0, v1, v2, v3, v4, v5, v6, v7, v8, v9, if yes = true then 1 else 0]) (wire_fields.o kd) 6) (clr (FV [v0, v1, v2, v3, v4, v5, v6, v7, v8, v9, if yes = true then 1 else 0]) (wire_fields.o kd) 7) (clr (FV [v0, v1, v2, v3, v4, v5, v6, v7, v8, v9, if yes = true then 1 else 0]) (wire_fields.o kd) 8) (clr (FV [v0, v1, v2, v3, v4, v5, v6, v7, v8, v9, if yes = true then 1 else 0]) (wire_fields.o kd) 9) (clr (FV [v0, v1, v2, v3, v4, v5, v6, v7, v8, v9, if yes = true then 1 else 0]) (wire_fields.o kd) 10) (clr (FV [v0, v1, v2, v3, v4, v5, v6, v7, v8, v9, if yes = true then 1 else 0]) (wire_fields.o kd) 11) (!flg kd && yes)) = mayV kd id [v0, v1, v2, v3, v4, v5, v6, v7, v8, v9, if yes = true then 1 else 0] := by
  rw [Bool.eq_iff_iff]
  have hr : List.range' 0 11 = [0, 1, 2, 3, 4, 5, 6, 7, 8, 9, 10] := rfl
  unfold mayV
  rw [hr]
  rcases kinds h with rfl | rfl | rfl | rfl | rfl | rfl | rfl | rfl | rfl | rfl | rfl <;> cases yes <;>
    simp [numsA, wire_fields.o, col, clr, upd, FV, rd, bareB, flg, ws, inN] <;> omega
theorem nums_enc (kd id v0 v1 v2 v3 v4 v5 v6 v7 v8 v9 : Int) (yes : Bool) (h : 1 ≤ kd ∧ kd ≤ 11) : (numsA kd id (FV [v0, v1, v2, v3, v4, v5, v6, v7, v8, v9, if yes = true then 1 else 0]) yes).flatMap enc = encV kd id [v0, v1, v2, v3, v4, v5, v6, v7, v8, v9, if yes = true then 1 else 0] := by
  unfold encV
  rcases kinds h with rfl | rfl | rfl | rfl | rfl | rfl | rfl | rfl | rfl | rfl | rfl <;> cases yes <;>
    simp [numsA, wire_fields.o, col, upd, FV, rd, flg, ws]
theorem nums_i64 (kd id : Int) (F : Int → Int) (hkd : I64 kd) (hid : I64 id) (hF : ∀ i, 2 ≤ i → i ≤ 11 → I64 (F i)) : ∀ v ∈ [kd, id] ++ col F (wire_fields.o kd), I64 v := by
  have hc : ∀ (os : List Int) (F : Int → Int), (∀ i, 2 ≤ i → i ≤ 11 → I64 (F i)) → (∀ o ∈ os, 2 ≤ o ∧ o ≤ 11) → ∀ v ∈ col F os, I64 v := by
    intro os
    induction os with
    | nil => intro F _ _ v hv; cases hv
    | cons o r ih =>
      intro F hF ho v hv
      rw [col] at hv
      rcases List.mem_cons.1 hv with rfl | hv
      · exact hF o (ho o (List.mem_cons_self ..)).1 (ho o (List.mem_cons_self ..)).2
      · refine ih (upd F o 0) (fun i h2 h11 => ?_) (fun y hy => ho y (List.mem_cons_of_mem _ hy)) v hv
        unfold upd
        split
        · unfold I64; omega
        · exact hF i h2 h11
  intro v hv
  rcases List.mem_append.1 hv with hv | hv
  · rcases List.mem_cons.1 hv with rfl | hv
    · exact hkd
    · rw [List.mem_singleton.1 hv]; exact hid
  · exact hc _ F hF (ofs_bd kd) v hv
theorem encodeAsk_eq (x : S43) (h : okA x) (k : Nat) (hk : x.f13.f4.length + 100 < k) : wire_EncodeAsk.f k x.f0 x.f1 x.f2 x.f3 x.f4 x.f5 x.f6 x.f7 x.f8 x.f9 x.f10 x.f11 x.f12 x.f13.f0 x.f13.f1 x.f13.f2 x.f13.f3 x.f13.f4 = some (encodeA x) := by
  obtain ⟨hkd, hid, hv, hl⟩ := h
  obtain ⟨k, rfl⟩ : ∃ m, k = m + 1 := ⟨k - 1, by omega⟩
  unfold wire_EncodeAsk.f wire_fields.f
  rw [Option.bind_some]
  dsimp only
  have jt : wire_EncodeAsk.j0 (k + 1) (wire_fields.o x.f0) true x.f0 x.f1 x.f2 x.f3 x.f4 x.f5 x.f6 x.f7 x.f8 x.f9 x.f10 x.f11 x.f12 x.f13.f0 x.f13.f1 x.f13.f2 x.f13.f3 x.f13.f4 = some ((⟨#[]⟩ : ByteArray), 1) := by rw [wire_EncodeAsk.j0, if_pos rfl]
  by_cases c : 1 ≤ x.f0 ∧ x.f0 ≤ 11
  · rw [decide_eq_true c, if_pos rfl, within_eq, Option.bind_some, all1]
    by_cases c2 : inN x.f1 = true
    · rw [c2, wire_EncodeAsk.j0, if_neg (by decide)]
      have h0 := enc_l0 (wire_fields.o x.f0) (ofs_bd _) (by have := ofs_len x.f0; omega) x.f0 x.f1 x.f12 x.f13.f0 x.f13.f1 x.f13.f2 x.f13.f3 x.f13.f4 (wire_fields.o x.f0).length 0 k [x.f0, x.f1] (FV (vals x)) (by omega) (by omega) (by have := ofs_len x.f0; omega) (by have := ofs_len x.f0; simp; omega)
      refine h0.trans ?_
      rw [List.drop_zero]
      have hm : ∀ j : Int, 2 ≤ j → j ≤ 11 → I64 (FV (vals x) j) := fun j h2 h11 => by
        refine hv _ ?_
        rcases (show j = 2 ∨ j = 3 ∨ j = 4 ∨ j = 5 ∨ j = 6 ∨ j = 7 ∨ j = 8 ∨ j = 9 ∨ j = 10 ∨ j = 11 by omega) with rfl | rfl | rfl | rfl | rfl | rfl | rfl | rfl | rfl | rfl <;> simp [FV, vals, rd]
      rw [enc_end _ _ _ (by have := ofs_len x.f0; rw [List.length_append, col_len]; simp; omega) (nums_i64 _ _ _ hkd hid hm) _ _ _ _ _ _ _ _ _ _ _ _ _ _ _ _ _ _ hl (by have := ofs_len x.f0; omega)]
      have e1 := nums_may x.f0 x.f1 x.f2 x.f3 x.f4 x.f5 x.f6 x.f7 x.f8 x.f9 x.f10 x.f11 x.f12 c
      have e2 := nums_enc x.f0 x.f1 x.f2 x.f3 x.f4 x.f5 x.f6 x.f7 x.f8 x.f9 x.f10 x.f11 x.f12 c
      unfold numsA at e1 e2
      refine congrArg some ?_
      unfold encodeA encA mayA
      rw [show vals x = [x.f2, x.f3, x.f4, x.f5, x.f6, x.f7, x.f8, x.f9, x.f10, x.f11, if x.f12 = true then 1 else 0] from rfl, e1, e2]
    · rw [Bool.eq_false_iff.2 c2, show (!false) = true from rfl, jt]
      exact encodeA_no fun e => c2 (mayV_id (mayA_iff.1 e).1)
  · rw [decide_eq_false c, if_neg (by decide), jt]
    exact encodeA_no fun e => c (mayV_kd (mayA_iff.1 e).1)
theorem awake_eq (k : Nat) (hk : 300 ≤ k) : headgatelaw18_awake.f k = some true := by
  unfold headgatelaw18_awake.f
  have z : ∀ v ∈ ([] : List S59), okG v := fun v hv => by cases hv
  have i0 : ∀ n : Int, 0 ≤ n → n ≤ 100 → I64 n := fun n h0 h1 => by unfold I64; omega
  have h1 := encodeAsk_eq ⟨8, 1, 0, 0, 0, 0, 0, 0, 0, 0, 0, 2, false, ⟨0, 0, 0, 0, []⟩⟩ ⟨i0 8 (by decide) (by decide), i0 1 (by decide) (by decide), fun v hv => by simp [vals] at hv; refine i0 v ?_ ?_ <;> omega, by simp⟩ k (by simp; omega)
  have h2 := encodeAsk_eq ⟨5, 3, 1, 2, 0, 0, 0, 0, 0, 0, 0, 0, true, ⟨0, 0, 0, 0, []⟩⟩ ⟨i0 5 (by decide) (by decide), i0 3 (by decide) (by decide), fun v hv => by simp [vals] at hv; refine i0 v ?_ ?_ <;> omega, by simp⟩ k (by simp; omega)
  have h3 := encodeReply_eq 1 0 5 0 [] [] z k (by omega)
  dsimp only at h1 h2
  have m1 : encodeA ⟨8, 1, 0, 0, 0, 0, 0, 0, 0, 0, 0, 2, false, ⟨0, 0, 0, 0, []⟩⟩ = (bs [16, 2, 4], 0) := by
    unfold encodeA
    rw [if_pos (by decide)]
    refine Prod.ext (bs_inj.2 ?_) rfl
    decide
  have m2 : encodeA ⟨5, 3, 1, 2, 0, 0, 0, 0, 0, 0, 0, 0, true, ⟨0, 0, 0, 0, []⟩⟩ = (bs [10, 6, 2, 4, 2], 0) := by
    unfold encodeA
    rw [if_pos (by decide)]
    refine Prod.ext (bs_inj.2 ?_) rfl
    decide
  have m3 : encodeP 1 0 5 0 [] [] = (bs [2, 0, 10, 0, 0, 0], 0) := by
    unfold encodeP
    rw [if_pos (by decide)]
    refine Prod.ext (bs_inj.2 ?_) rfl
    decide
  rw [h1, Option.bind_some, h2, Option.bind_some, h3, Option.bind_some, m1, m2, m3]
  dsimp only
  rw [toList_bs, toList_bs, toList_bs, if_pos rfl, if_pos rfl, if_pos rfl, if_pos rfl, if_pos rfl]
  rfl
theorem ws_len (kd : Int) : (ws kd).length ≤ 7 := by
  by_cases h : 1 ≤ kd ∧ kd ≤ 11
  · rcases kinds h with rfl | rfl | rfl | rfl | rfl | rfl | rfl | rfl | rfl | rfl | rfl <;> decide
  · rw [ws_no h]
    decide
theorem rwhich_eq (kd : Int) (k : Nat) (hk : 2 ≤ k) : headgateref18_which.f k kd = some (ws kd) := by
  obtain ⟨k, rfl⟩ : ∃ m, k = m + 2 := ⟨k - 2, by omega⟩
  by_cases h : 1 ≤ kd ∧ kd ≤ 11
  · rcases kinds h with rfl | rfl | rfl | rfl | rfl | rfl | rfl | rfl | rfl | rfl | rfl <;> rfl
  · have ne : ∀ n : Int, 1 ≤ n → n ≤ 11 → ¬ ((kd == n) = true) := fun n h1 h2 e => by
      have := beq_iff_eq.1 e
      omega
    rw [ws_no h]
    unfold headgateref18_which.f
    rw [if_neg (by omega), if_neg (by omega), if_neg (by omega), headgateref18_which.j0, if_neg (ne 7 (by decide) (by decide)), if_neg (by omega), if_neg (by omega), if_neg (by omega), if_neg (by omega), if_neg (by omega), headgateref18_which.j1, if_neg (ne 11 (by decide) (by decide)), if_neg (by omega)]
theorem rlist_eq (x : S43) : headgateref18_list.f x.f0 x.f1 x.f2 x.f3 x.f4 x.f5 x.f6 x.f7 x.f8 x.f9 x.f10 x.f11 x.f12 x.f13.f0 x.f13.f1 x.f13.f2 x.f13.f3 x.f13.f4 = some (vals x) := by
  unfold headgateref18_list.f vals
  rw [Option.bind_some]
  cases x.f12 with
  | true => rw [if_pos rfl, if_pos (by simp), if_pos rfl]; rfl
  | false => rw [if_neg (by decide), if_neg (by decide)]
theorem rmay_l1 (x : S43) (w V : List Int) (i : Int) (hl : w.length ≤ 1000) (d : Nat) : ∀ (j k : Nat) (has : Bool), w.length - j = d → j ≤ w.length → d < k →
    headgateref18_MayAsk.l1 k w V i has (j : Int) x.f0 x.f1 x.f2 x.f3 x.f4 x.f5 x.f6 x.f7 x.f8 x.f9 x.f10 x.f11 x.f12 x.f13.f0 x.f13.f1 x.f13.f2 x.f13.f3 x.f13.f4 = headgateref18_MayAsk.l1 (k - d) w V i (has || (w.drop j).contains i) (w.length : Int) x.f0 x.f1 x.f2 x.f3 x.f4 x.f5 x.f6 x.f7 x.f8 x.f9 x.f10 x.f11 x.f12 x.f13.f0 x.f13.f1 x.f13.f2 x.f13.f3 x.f13.f4 := by
  induction d with
  | zero =>
    intro j k has hd hj hk
    obtain rfl : j = w.length := by omega
    rw [List.drop_length, List.contains_nil, Bool.or_false]
    rfl
  | succ d ih =>
    intro j k has hd hj hk
    obtain ⟨k, rfl⟩ : ∃ m, k = m + 1 := ⟨k - 1, by omega⟩
    have hjl : j < w.length := by omega
    have e1 : wrap64 ((j : Int) + 1) = ((j + 1 : Nat) : Int) := by rw [w64 (by omega) (by omega)]; omega
    have hc : (w[j] == i) = (i == w[j]) := Bool.beq_comm
    rw [headgateref18_MayAsk.l1, if_pos (by omega), e1, show k + 1 - (d + 1) = k - d by omega, List.drop_eq_getElem_cons hjl, List.contains_cons, ← Bool.or_assoc]
    cases has with
    | true =>
      rw [if_pos rfl, ih (j + 1) k true (by omega) (by omega) (by omega)]
      simp only [Bool.true_or]
    | false =>
      rw [if_neg (by decide), if_pos (by omega), rd_int w j hjl, ih (j + 1) k _ (by omega) (by omega) (by omega), Bool.false_or, hc]
theorem rmay_l0 (x : S43) (w V : List Int) (hl : w.length ≤ 1000) (hV : V.length = 11) (d : Nat) : ∀ (j k : Nat), 11 - j = d → j ≤ 11 → d * (w.length + 2) + 1 < k →
    ∃ m, k ≤ m + d * (w.length + 2) ∧ headgateref18_MayAsk.l0 k w V (j : Int) x.f0 x.f1 x.f2 x.f3 x.f4 x.f5 x.f6 x.f7 x.f8 x.f9 x.f10 x.f11 x.f12 x.f13.f0 x.f13.f1 x.f13.f2 x.f13.f3 x.f13.f4 = if ((List.range' j d).all fun i => w.contains (i : Int) || rd V (i : Int) == 0) = true then headgateref18_MayAsk.l0 m w V 11 x.f0 x.f1 x.f2 x.f3 x.f4 x.f5 x.f6 x.f7 x.f8 x.f9 x.f10 x.f11 x.f12 x.f13.f0 x.f13.f1 x.f13.f2 x.f13.f3 x.f13.f4 else some false := by
  induction d with
  | zero =>
    intro j k hd hj hk
    obtain rfl : j = 11 := by omega
    exact ⟨k, by omega, by rw [List.range'_zero, List.all_nil, if_pos rfl]; rfl⟩
  | succ d ih =>
    intro j k hd hj hk
    obtain ⟨k, rfl⟩ : ∃ m, k = m + 1 := ⟨k - 1, by omega⟩
    have e1 : wrap64 ((j : Int) + 1) = ((j + 1 : Nat) : Int) := by rw [w64 (by omega) (by omega)]; omega
    have hs : (d + 1) * (w.length + 2) = d * (w.length + 2) + (w.length + 2) := by rw [Nat.add_mul, Nat.one_mul]
    obtain ⟨q, hq⟩ : ∃ q, k - w.length = q + 1 := ⟨k - w.length - 1, by omega⟩
    obtain ⟨m, hm, he⟩ := ih (j + 1) q (by omega) (by omega) (by omega)
    have h1 := rmay_l1 x w V (j : Int) hl w.length 0 k false (by omega) (by omega) (by omega)
    rw [List.drop_zero, Bool.false_or, hq] at h1
    have h0 : headgateref18_MayAsk.l0 (k + 1) w V (j : Int) x.f0 x.f1 x.f2 x.f3 x.f4 x.f5 x.f6 x.f7 x.f8 x.f9 x.f10 x.f11 x.f12 x.f13.f0 x.f13.f1 x.f13.f2 x.f13.f3 x.f13.f4 = headgateref18_MayAsk.l1 k w V (j : Int) false ((0 : Nat) : Int) x.f0 x.f1 x.f2 x.f3 x.f4 x.f5 x.f6 x.f7 x.f8 x.f9 x.f10 x.f11 x.f12 x.f13.f0 x.f13.f1 x.f13.f2 x.f13.f3 x.f13.f4 := by
      rw [headgateref18_MayAsk.l0, if_pos (by omega)]
      rfl
    refine ⟨m, by omega, ?_⟩
    rw [h0, h1, headgateref18_MayAsk.l1, if_neg (by omega), e1, he, List.range'_succ, List.all_cons]
    cases hc : w.contains (j : Int) with
    | true =>
      rw [if_pos rfl, Bool.true_or, Bool.true_and]
    | false =>
      rw [if_neg (by decide), if_pos (by omega), if_pos (by omega), Bool.false_or]
      by_cases c : rd V (j : Int) = 0
      · rw [if_pos c, beq_iff_eq.mpr c, Bool.true_and]
      · rw [if_neg c, beq_eq_false_iff_ne.mpr c, Bool.false_and, if_neg (by decide)]
theorem rmayA_eq (x : S43) (k : Nat) (hb : x.f13.f4.length ≤ 9223372036854775800) (hk : x.f13.f4.length + 200 < k) : headgateref18_MayAsk.f k x.f0 x.f1 x.f2 x.f3 x.f4 x.f5 x.f6 x.f7 x.f8 x.f9 x.f10 x.f11 x.f12 x.f13.f0 x.f13.f1 x.f13.f2 x.f13.f3 x.f13.f4 = some (mayA x) := by
  obtain ⟨k, rfl⟩ : ∃ m, k = m + 1 := ⟨k - 1, by omega⟩
  have jt : ∀ w, headgateref18_MayAsk.j0 (k + 1) w true x.f0 x.f1 x.f2 x.f3 x.f4 x.f5 x.f6 x.f7 x.f8 x.f9 x.f10 x.f11 x.f12 x.f13.f0 x.f13.f1 x.f13.f2 x.f13.f3 x.f13.f4 = some false := fun w => by rw [headgateref18_MayAsk.j0, if_pos rfl]
  have no : ¬ mayA x = true → some false = some (mayA x) := fun h => by rw [Bool.eq_false_iff.2 h]
  unfold headgateref18_MayAsk.f
  rw [rwhich_eq _ _ (by omega), Option.bind_some, jt]
  have hw := ws_len x.f0
  by_cases c : 1 ≤ x.f0 ∧ x.f0 ≤ 11
  · have hp : ¬ ((ws x.f0).length : Int) = 0 := by
      rcases kinds c with e | e | e | e | e | e | e | e | e | e | e <;> rw [e] <;> decide
    rw [if_neg hp, rin_eq _ (by simp) _ (by simp; omega), Option.bind_some, all1]
    by_cases c2 : inN x.f1 = true
    · rw [c2, headgateref18_MayAsk.j0, if_neg (by decide), rlist_eq, Option.bind_some]
      have hm : 11 * ((ws x.f0).length + 2) ≤ 99 := by omega
      obtain ⟨m, hm2, he⟩ := rmay_l0 x (ws x.f0) (vals x) (by omega) rfl 11 0 k (by omega) (by omega) (by omega)
      refine he.trans ?_
      have hV : (vals x).length = 11 := rfl
      obtain ⟨q, rfl⟩ : ∃ q, m = q + 1 := ⟨m - 1, by omega⟩
      by_cases c3 : ((List.range' 0 11).all fun i => (ws x.f0).contains (i : Int) || rd (vals x) (i : Int) == 0) = true
      · rw [if_pos c3, headgateref18_MayAsk.l0, if_neg (by omega), rin_eq _ (by omega) _ (by omega), Option.bind_some, rMay_eq _ _ _ _ _ (by omega) _ (by omega), Bd.rsameB_eq _ _ _ _ _ _ _ _ _ _ (by omega) _ (by omega), Option.bind_some, Option.bind_some]
        unfold mayA mayV
        rw [decide_eq_true c, c2, c3]
        simp only [Bool.and_true, Bool.true_and, Option.bind_some]
        have hz : decide (x.f13.f0 = 0 ∧ x.f13.f1 = 0 ∧ x.f13.f2 = 0 ∧ x.f13.f3 = 0 ∧ x.f13.f4 = []) = zb x.f13.f0 x.f13.f1 x.f13.f2 x.f13.f3 x.f13.f4 := by
          unfold zb
          refine decide_eq_decide.mpr ?_
          rw [List.length_eq_zero_iff]
        unfold mayC
        rw [hz]
        by_cases c4 : x.f0 = 3
        · rw [if_pos c4, if_pos c4]
          by_cases c5 : (vals x).all inN = true
          · rw [if_pos c5, c5, Bool.true_and]
          · rw [if_neg c5, Bool.eq_false_iff.2 c5, Bool.false_and]
        · rw [if_neg c4, if_neg c4]
          by_cases c5 : (vals x).all inN = true
          · rw [if_pos c5, c5, Bool.true_and]
          · rw [if_neg c5, Bool.eq_false_iff.2 c5, Bool.false_and]
      · rw [if_neg c3]
        refine no fun e => c3 ?_
        have := (mayA_iff.1 e).1
        unfold mayV at this
        rw [Bool.and_eq_true, Bool.and_eq_true, Bool.and_eq_true] at this
        exact this.2.2
    · rw [Bool.eq_false_iff.2 c2, show (!false) = true from rfl, jt]
      exact no fun e => c2 (mayV_id (mayA_iff.1 e).1)
  · rw [ws_no c, if_pos (by rfl)]
    exact no fun e => c (mayV_kd (mayA_iff.1 e).1)
theorem ws_bd (kd : Int) : ∀ p ∈ ws kd, 0 ≤ p ∧ p < 11 := by
  by_cases h : 1 ≤ kd ∧ kd ≤ 11
  · rcases kinds h with rfl | rfl | rfl | rfl | rfl | rfl | rfl | rfl | rfl | rfl | rfl <;> decide
  · rw [ws_no h]
    intro p hp
    cases hp
theorem renc_l0 (x : S43) (w V : List Int) (hw : ∀ p ∈ w, 0 ≤ p ∧ p < 11) (hV : V.length = 11) (hi : ∀ v ∈ V, I64 v) (hl : w.length ≤ 1000) (d : Nat) : ∀ (j k : Nat) (acc : List UInt8), w.length - j = d → j ≤ w.length → d + 20 < k → acc.length + 10 * d ≤ 1000000 →
    headgateref18_EncodeAsk.l0 k (bs acc) w V (j : Int) x.f0 x.f1 x.f2 x.f3 x.f4 x.f5 x.f6 x.f7 x.f8 x.f9 x.f10 x.f11 x.f12 x.f13.f0 x.f13.f1 x.f13.f2 x.f13.f3 x.f13.f4 = headgateref18_EncodeAsk.l0 (k - d) (bs (acc ++ (w.drop j).flatMap fun p => enc (rd V p))) w V (w.length : Int) x.f0 x.f1 x.f2 x.f3 x.f4 x.f5 x.f6 x.f7 x.f8 x.f9 x.f10 x.f11 x.f12 x.f13.f0 x.f13.f1 x.f13.f2 x.f13.f3 x.f13.f4 := by
  induction d with
  | zero =>
    intro j k acc hd hj hk ha
    obtain rfl : j = w.length := by omega
    rw [List.drop_length, List.flatMap_nil, List.append_nil]
    rfl
  | succ d ih =>
    intro j k acc hd hj hk ha
    obtain ⟨k, rfl⟩ : ∃ m, k = m + 1 := ⟨k - 1, by omega⟩
    have hjl : j < w.length := by omega
    have e1 : wrap64 ((j : Int) + 1) = ((j + 1 : Nat) : Int) := by rw [w64 (by omega) (by omega)]; omega
    obtain ⟨h0, h1⟩ := hw w[j] (List.getElem_mem hjl)
    have hv : I64 (rd V w[j]) := by
      have : rd V w[j] = V[w[j].toNat] := by
        have := rd_int V w[j].toNat (by omega)
        rw [← this, Int.toNat_of_nonneg h0]
      rw [this]
      exact hi _ (List.getElem_mem _)
    have hn := (enc_len (rd V w[j])).2
    rw [headgateref18_EncodeAsk.l0, if_pos (by omega), if_pos (by omega), rd_int w j hjl, if_pos h0, if_pos (by omega), put_f _ hv _ (by omega), Option.bind_some, if_pos (by rw [size_bs, size_bs]; omega), append_bs, e1, ih (j + 1) k _ (by omega) (by omega) (by omega) (by rw [List.length_append]; omega), show k + 1 - (d + 1) = k - d by omega, List.drop_eq_getElem_cons hjl, List.flatMap_cons, List.append_assoc]
theorem rencodeAsk_eq (x : S43) (k : Nat) (hb : x.f13.f4.length ≤ 9223372036854775800) (hk : x.f13.f4.length + 300 < k) : headgateref18_EncodeAsk.f k x.f0 x.f1 x.f2 x.f3 x.f4 x.f5 x.f6 x.f7 x.f8 x.f9 x.f10 x.f11 x.f12 x.f13.f0 x.f13.f1 x.f13.f2 x.f13.f3 x.f13.f4 = some (encodeA x) := by
  unfold headgateref18_EncodeAsk.f
  rw [rmayA_eq x k hb (by omega), Option.bind_some]
  by_cases h : mayA x = true
  · obtain ⟨hV, hC⟩ := mayA_iff.1 h
    have hk2 := mayV_kd hV
    have i0 : I64 x.f0 := by unfold I64; omega
    have i1 := inN_i64 (mayV_id hV)
    have n0 := (enc_len x.f0).2
    have n1 := (enc_len x.f1).2
    have hw := ws_len x.f0
    have hf : ∀ l : List Int, (l.flatMap fun p => enc (rd (vals x) p)).length ≤ 10 * l.length := fun l => by
      have := flat_enc_len (l.map (rd (vals x)))
      rw [List.flatMap_map, List.length_map] at this
      exact this
    have hf2 := hf (ws x.f0)
    rw [if_pos h, put_f _ i0 k (by omega), Option.bind_some, put_f _ i1 k (by omega), Option.bind_some, if_pos (by rw [size_bs, size_bs]; omega), append_bs, rwhich_eq _ _ (by omega), Option.bind_some, rlist_eq, Option.bind_some]
    have h0 := renc_l0 x (ws x.f0) (vals x) (ws_bd _) rfl (fun v hv => inN_i64 (mayV_in hV v hv)) (by omega) (ws x.f0).length 0 k (enc x.f0 ++ enc x.f1) (by omega) (by omega) (by omega) (by rw [List.length_append]; omega)
    refine h0.trans ?_
    rw [List.drop_zero]
    obtain ⟨m, hm⟩ : ∃ m, k - (ws x.f0).length = m + 1 := ⟨k - (ws x.f0).length - 1, by omega⟩
    rw [hm, headgateref18_EncodeAsk.l0, if_neg (by omega)]
    unfold encodeA encA encV encC
    rw [if_pos h]
    unfold mayC at hC
    by_cases c : x.f0 = 3
    · rw [if_pos c] at hC
      have hbl := encB_len hC
      have hpt := ptext_len (encB x.f13.f0 x.f13.f1 x.f13.f2 x.f13.f3 x.f13.f4)
      have he : encodeR x.f13.f0 x.f13.f1 x.f13.f2 x.f13.f3 x.f13.f4 = (bs (encB x.f13.f0 x.f13.f1 x.f13.f2 x.f13.f3 x.f13.f4), 0) := if_pos hC
      rw [if_pos c, if_pos c, rencode_eq _ _ _ _ _ (by omega) m (by omega), Option.bind_some, he]
      dsimp only
      rw [rtext_eq _ (by omega) _ (by omega), Option.bind_some, if_pos (by rw [size_bs, size_bs]; simp only [List.length_append]; omega), append_bs]
    · rw [if_neg c, if_neg c, List.append_nil]
  · rw [if_neg h]; exact encodeA_no h
theorem sameAsk_self (x : S43) (k : Nat) (hb : x.f13.f4.length ≤ 9223372036854775800) (hk : x.f13.f4.length + 50 < k) : headgateref18_SameAsk.f k x.f0 x.f1 x.f2 x.f3 x.f4 x.f5 x.f6 x.f7 x.f8 x.f9 x.f10 x.f11 x.f12 x.f13.f0 x.f13.f1 x.f13.f2 x.f13.f3 x.f13.f4 x.f0 x.f1 x.f2 x.f3 x.f4 x.f5 x.f6 x.f7 x.f8 x.f9 x.f10 x.f11 x.f12 x.f13.f0 x.f13.f1 x.f13.f2 x.f13.f3 x.f13.f4 = some true := by
  have rl : headgateref18_list.f x.f0 x.f1 x.f2 x.f3 x.f4 x.f5 x.f6 x.f7 x.f8 x.f9 x.f10 x.f11 x.f12 x.f13.f0 x.f13.f1 x.f13.f2 x.f13.f3 x.f13.f4 = some (vals x) := by
    unfold headgateref18_list.f vals
    rw [Option.bind_some]
    cases x.f12 with
    | true => rw [if_pos rfl, if_pos (by simp), if_pos rfl]; rfl
    | false => rw [if_neg (by decide), if_neg (by decide)]
  have hV : (vals x).length = 11 := rfl
  unfold headgateref18_SameAsk.f
  rw [if_pos rfl, if_pos rfl, rl, Option.bind_some, Option.bind_some, Vp.rsame_eq _ _ (by omega) _ (by omega), Option.bind_some, if_pos (by simp), Bd.rsameB_eq _ _ _ _ _ _ _ _ _ _ (by omega) _ (by omega), Option.bind_some]
  simp
end Go.Proofs.Ytikbpjdgihheiaa.Wa
set_option linter.unusedVariables false
set_option linter.unusedSimpArgs false
namespace Go.Proofs.Ytikbpjdgihheiaa.Gd
open Go.RowKit Go.Proofs.Ytikbpjdgihheiaa.Vm Go.Proofs.Ytikbpjdgihheiaa.Vref Go.Proofs.Ytikbpjdgihheiaa.Vp Go.Proofs.Ytikbpjdgihheiaa.Bt Go.Proofs.Ytikbpjdgihheiaa.Be Go.Proofs.Ytikbpjdgihheiaa.Bd Go.Proofs.Ytikbpjdgihheiaa.Wr Go.Proofs.Ytikbpjdgihheiaa.Wa Go.Proofs.Ytikbpjdgihheiaa.P Go.Proofs.YtikbpjdgihheiaaW.PrintWords Go.Proofs.YtikbpjdgihheiaaW.PrintLast
abbrev AR := Int × Int × Int × Int × Int × Int × Int × Int × Int × Int × Int × Int × Bool × Int × Int × Int × Int × List S57 × Int
def tupA (x : S43) (c : Int) : AR := (x.f0, x.f1, x.f2, x.f3, x.f4, x.f5, x.f6, x.f7, x.f8, x.f9, x.f10, x.f11, x.f12, x.f13.f0, x.f13.f1, x.f13.f2, x.f13.f3, x.f13.f4, c)
def badA : AR := (0, 0, 0, 0, 0, 0, 0, 0, 0, 0, 0, 0, false, 0, 0, 0, 0, [], 2)
def bB (t : BR) : S41 := ⟨t.1, t.2.1, t.2.2.1, t.2.2.2.1, t.2.2.2.2.1⟩
def zB : S41 := ⟨0, 0, 0, 0, []⟩
def mkA (kd id : Int) (V : List Int) (b : S41) : S43 := ⟨kd, id, rd V 0, rd V 1, rd V 2, rd V 3, rd V 4, rd V 5, rd V 6, rd V 7, rd V 8, rd V 9, rd V 10 == 1, b⟩
def setV (V : List Int) : List Int → List Int → List Int
  | p :: ps, n :: ns => setV (V.set p.toNat n) ps ns
  | _, _ => V
def finA (x : S43) (V : List Int) (r : List UInt8) : AR := if r = [] ∧ 0 ≤ rd V 10 ∧ rd V 10 ≤ 1 ∧ mayA x = true then tupA x 0 else badA
def zv : List Int := [0, 0, 0, 0, 0, 0, 0, 0, 0, 0, 0]
def tailA (kd id : Int) (V : List Int) (r2 : List UInt8) : AR :=
  if kd = 3 then match ttext r2 (r2.length : Int) with
    | some (t, r3) => if (decBR t).2.2.2.2.2 = 0 then finA (mkA kd id V (bB (decBR t))) V r3 else badA
    | none => badA
  else finA (mkA kd id V zB) V r2
def decA (l : List UInt8) : AR := match decN 2 l with
  | some (h, r) => if ws (rd h 0) = [] then badA else match decN (ws (rd h 0)).length r with
    | some (n, r2) => tailA (rd h 0) (rd h 1) (setV zv (ws (rd h 0)) n) r2
    | none => badA
  | none => badA
theorem setV_len (ps : List Int) : ∀ (V ns : List Int), (setV V ps ns).length = V.length := by
  induction ps with
  | nil => intro V ns; rfl
  | cons p ps ih =>
    intro V ns
    cases ns with
    | nil => rfl
    | cons n ns => rw [setV, ih, List.length_set]
theorem ws_some {kd : Int} (h : ws kd ≠ []) : 1 ≤ kd ∧ kd ≤ 11 := by
  by_cases c : 1 ≤ kd ∧ kd ≤ 11
  · exact c
  · exact absurd (ws_no c) h
theorem ws_nn {kd : Int} (h : 1 ≤ kd ∧ kd ≤ 11) : ws kd ≠ [] := by
  rcases kinds h with rfl | rfl | rfl | rfl | rfl | rfl | rfl | rfl | rfl | rfl | rfl <;> decide
theorem setV_map {kd : Int} (h : 1 ≤ kd ∧ kd ≤ 11) (n : List Int) (hn : n.length = (ws kd).length) : (ws kd).map (rd (setV zv (ws kd) n)) = n := by
  rcases kinds h with rfl | rfl | rfl | rfl | rfl | rfl | rfl | rfl | rfl | rfl | rfl <;> simp [ws] at hn ⊢
  · match n, hn with | [a], _ => rfl
  · match n, hn with | [a, b, c], _ => rfl
  · match n, hn with | [a], _ => rfl
  · match n, hn with | [a, b, c, d, e, f, g], _ => rfl
  · match n, hn with | [a, b, c], _ => rfl
  · match n, hn with | [a, b, c, d], _ => rfl
  · match n, hn with | [a], _ => rfl
  · match n, hn with | [a], _ => rfl
  · match n, hn with | [a], _ => rfl
  · match n, hn with | [a, b], _ => rfl
  · match n, hn with | [a], _ => rfl
theorem vals_mk (kd id : Int) (V : List Int) (b : S41) (h : V.length = 11) (h0 : 0 ≤ rd V 10) (h1 : rd V 10 ≤ 1) : vals (mkA kd id V b) = V := by
  match V, h with
  | [v0, v1, v2, v3, v4, v5, v6, v7, v8, v9, v10], _ =>
    have e : rd [v0, v1, v2, v3, v4, v5, v6, v7, v8, v9, v10] 10 = v10 := rfl
    rw [e] at h0 h1
    have : v10 = 0 ∨ v10 = 1 := by omega
    rcases this with rfl | rfl <;> rfl
theorem mk_vals (x : S43) : mkA x.f0 x.f1 (vals x) x.f13 = x := by
  obtain ⟨x0, x1, x2, x3, x4, x5, x6, x7, x8, x9, x10, x11, x12, x13⟩ := x
  cases x12 <;> rfl
theorem mayV_zero {kd id : Int} {V : List Int} (h : mayV kd id V = true) : ((List.range' 0 11).all fun i => (ws kd).contains (i : Int) || rd V (i : Int) == 0) = true := by
  unfold mayV at h
  rw [Bool.and_eq_true, Bool.and_eq_true, Bool.and_eq_true] at h
  exact h.2.2
theorem setV_vals (kd id : Int) (V : List Int) (hl : V.length = 11) (h : mayV kd id V = true) : setV zv (ws kd) ((ws kd).map (rd V)) = V := by
  have hk := mayV_kd h
  have hr : List.range' 0 11 = [0, 1, 2, 3, 4, 5, 6, 7, 8, 9, 10] := rfl
  match V, hl with
  | [v0, v1, v2, v3, v4, v5, v6, v7, v8, v9, v10], _ =>
    have h2 := mayV_zero h
    rw [hr] at h2
    clear h
    rcases kinds hk with rfl | rfl | rfl | rfl | rfl | rfl | rfl | rfl | rfl | rfl | rfl <;> simp [ws, rd] at h2 <;> simp [ws, setV, rd, zv, h2]
theorem encV_map (kd id : Int) (V : List Int) : encV kd id V = enc kd ++ enc id ++ ((ws kd).map (rd V)).flatMap enc := by
  unfold encV
  rw [List.flatMap_map]
theorem two_len {h : List Int} (h2 : h.length = 2) : h = [rd h 0, rd h 1] := by
  match h, h2 with
  | [a, b], _ => rfl
theorem finA_or (kd id : Int) (V : List Int) (b : S41) (r l : List UInt8) (hV : V.length = 11) (hl : r = [] → 0 ≤ rd V 10 → rd V 10 ≤ 1 → mayA (mkA kd id V b) = true → l = encA (mkA kd id V b)) : finA (mkA kd id V b) V r = badA ∨ ∃ x, finA (mkA kd id V b) V r = tupA x 0 ∧ mayA x = true ∧ l = encA x := by
  unfold finA
  split
  · rename_i h
    exact .inr ⟨_, rfl, h.2.2.2, hl h.1 h.2.1 h.2.2.1 h.2.2.2⟩
  · exact .inl rfl
theorem bB_of (t : List UInt8) (h : (decBR t).2.2.2.2.2 = 0) : mayB (bB (decBR t)).f0 (bB (decBR t)).f1 (bB (decBR t)).f2 (bB (decBR t)).f3 (bB (decBR t)).f4 = true ∧ t = encB (bB (decBR t)).f0 (bB (decBR t)).f1 (bB (decBR t)).f2 (bB (decBR t)).f3 (bB (decBR t)).f4 :=
  decBR_ok (show decBR t = ((decBR t).1, (decBR t).2.1, (decBR t).2.2.1, (decBR t).2.2.2.1, (decBR t).2.2.2.2.1, (decBR t).2.2.2.2.2) from rfl) h
theorem decA_or (l : List UInt8) : decA l = badA ∨ ∃ x, decA l = tupA x 0 ∧ mayA x = true ∧ l = encA x := by
  unfold decA
  cases hd : decN 2 l with
  | none => exact .inl rfl
  | some q =>
    obtain ⟨h, r⟩ := q
    obtain ⟨e1, h2, -⟩ := (decN_iff _ _ _ _).1 hd
    dsimp only
    by_cases c : ws (rd h 0) = []
    · rw [if_pos c]; exact .inl rfl
    · rw [if_neg c]
      have hk := ws_some c
      cases hn : decN (ws (rd h 0)).length r with
      | none => exact .inl rfl
      | some q =>
        obtain ⟨n, r2⟩ := q
        obtain ⟨e2, hn2, -⟩ := (decN_iff _ _ _ _).1 hn
        have hV : (setV zv (ws (rd h 0)) n).length = 11 := by rw [setV_len]; rfl
        have hm := setV_map hk n hn2
        dsimp only
        unfold tailA
        have hh := two_len h2
        have e3 : l = enc (rd h 0) ++ enc (rd h 1) ++ n.flatMap enc ++ r2 := by
          rw [e1, e2, hh]
          simp only [List.flatMap_cons, List.flatMap_nil, List.append_nil, List.append_assoc]
          rfl
        have e4 : ∀ b, 0 ≤ rd (setV zv (ws (rd h 0)) n) 10 → rd (setV zv (ws (rd h 0)) n) 10 ≤ 1 → encA (mkA (rd h 0) (rd h 1) (setV zv (ws (rd h 0)) n) b) = enc (rd h 0) ++ enc (rd h 1) ++ n.flatMap enc ++ encC (rd h 0) b.f0 b.f1 b.f2 b.f3 b.f4 := fun b i0 i1 => by
          unfold encA
          rw [vals_mk _ _ _ _ hV i0 i1]
          show encV (rd h 0) (rd h 1) _ ++ encC (rd h 0) b.f0 b.f1 b.f2 b.f3 b.f4 = _
          rw [encV_map, hm]
        by_cases c3 : rd h 0 = 3
        · rw [if_pos c3]
          cases ht : ttext r2 (r2.length : Int) with
          | none => exact .inl rfl
          | some q =>
            obtain ⟨t, r3⟩ := q
            obtain ⟨e5, -⟩ := ttext_some ht
            dsimp only
            by_cases c4 : (decBR t).2.2.2.2.2 = 0
            · rw [if_pos c4]
              refine finA_or _ _ _ _ _ l hV fun hr i0 i1 hm => ?_
              rw [e4 _ i0 i1, e3, e5, hr, List.append_nil]
              unfold encC
              rw [if_pos c3, ← (bB_of t c4).2]
            · rw [if_neg c4]; exact .inl rfl
        · rw [if_neg c3]
          refine finA_or _ _ _ _ _ l hV fun hr i0 i1 hm => ?_
          rw [e4 _ i0 i1, e3, hr]
          unfold encC
          rw [if_neg c3]
theorem mayC_zB {kd : Int} {b : S41} (h : mayC kd b.f0 b.f1 b.f2 b.f3 b.f4 = true) (c : kd ≠ 3) : b = zB := by
  unfold mayC zb at h
  rw [if_neg c, decide_eq_true_iff] at h
  obtain ⟨b0, b1, b2, b3, b4⟩ := b
  obtain ⟨h0, h1, h2, h3, h4⟩ := h
  dsimp only at h0 h1 h2 h3 h4
  rw [h0, h1, h2, h3, List.eq_nil_of_length_eq_zero h4]
  rfl
theorem vals_len (x : S43) : (vals x).length = 11 := rfl
theorem vals_ten (x : S43) : 0 ≤ rd (vals x) 10 ∧ rd (vals x) 10 ≤ 1 := by
  have : rd (vals x) 10 = if x.f12 = true then 1 else 0 := rfl
  rw [this]
  split <;> decide
theorem wsmap_in {kd id : Int} {V : List Int} (hV : V.length = 11) (h : mayV kd id V = true) : ∀ v ∈ (ws kd).map (rd V), I64 v := by
  intro v hv
  obtain ⟨p, hp, rfl⟩ := List.mem_map.1 hv
  obtain ⟨h0, h1⟩ := ws_bd kd p hp
  have : rd V p = V[p.toNat] := by
    have := rd_int V p.toNat (by omega)
    rw [← this, Int.toNat_of_nonneg h0]
  rw [this]
  exact inN_i64 (mayV_in h _ (List.getElem_mem _))
/-- The parts of a request's bytes, one behind the other. -/
theorem encA_parts (x : S43) (h : mayA x = true) : decN 2 (encA x) = some ([x.f0, x.f1], ((ws x.f0).map (rd (vals x))).flatMap enc ++ encC x.f0 x.f13.f0 x.f13.f1 x.f13.f2 x.f13.f3 x.f13.f4) ∧ decN (ws x.f0).length (((ws x.f0).map (rd (vals x))).flatMap enc ++ encC x.f0 x.f13.f0 x.f13.f1 x.f13.f2 x.f13.f3 x.f13.f4) = some ((ws x.f0).map (rd (vals x)), encC x.f0 x.f13.f0 x.f13.f1 x.f13.f2 x.f13.f3 x.f13.f4) := by
  obtain ⟨hV, hC⟩ := mayA_iff.1 h
  have hk := mayV_kd hV
  refine ⟨(decN_iff _ _ _ _).2 ⟨?_, rfl, fun y hy => ?_⟩, (decN_iff _ _ _ _).2 ⟨rfl, by rw [List.length_map], wsmap_in (vals_len x) hV⟩⟩
  · unfold encA
    rw [encV_map]
    simp only [List.flatMap_cons, List.flatMap_nil, List.append_nil, List.append_assoc]
  · rcases List.mem_cons.1 hy with rfl | hy
    · unfold I64; omega
    · rw [List.mem_singleton.1 hy]; exact inN_i64 (mayV_id hV)
theorem ttext_encC {x : S43} (h : mayA x = true) (c : x.f0 = 3) : ttext (encC x.f0 x.f13.f0 x.f13.f1 x.f13.f2 x.f13.f3 x.f13.f4) ((encC x.f0 x.f13.f0 x.f13.f1 x.f13.f2 x.f13.f3 x.f13.f4).length : Int) = some (encB x.f13.f0 x.f13.f1 x.f13.f2 x.f13.f3 x.f13.f4, []) ∧ decBR (encB x.f13.f0 x.f13.f1 x.f13.f2 x.f13.f3 x.f13.f4) = (x.f13.f0, x.f13.f1, x.f13.f2, x.f13.f3, x.f13.f4, 0) := by
  have hC := (mayA_iff.1 h).2
  unfold mayC at hC
  rw [if_pos c] at hC
  have hb := encB_len hC
  refine ⟨?_, decBR_enc hC⟩
  unfold encC
  rw [if_pos c]
  have := ttext_ptext (encB x.f13.f0 x.f13.f1 x.f13.f2 x.f13.f3 x.f13.f4) [] (by omega) ((ptext (encB x.f13.f0 x.f13.f1 x.f13.f2 x.f13.f3 x.f13.f4)).length : Int) (by unfold ptext; rw [List.length_append]; omega)
  rw [List.append_nil] at this
  exact this
theorem decA_enc {x : S43} (h : mayA x = true) : decA (encA x) = tupA x 0 := by
  obtain ⟨hV, hC⟩ := mayA_iff.1 h
  have hk := mayV_kd hV
  obtain ⟨p1, p2⟩ := encA_parts x h
  unfold decA
  rw [p1]
  show (if ws x.f0 = [] then badA else match decN (ws x.f0).length (((ws x.f0).map (rd (vals x))).flatMap enc ++ encC x.f0 x.f13.f0 x.f13.f1 x.f13.f2 x.f13.f3 x.f13.f4) with
    | some (n, r2) => tailA x.f0 x.f1 (setV zv (ws x.f0) n) r2
    | none => badA) = _
  rw [if_neg (ws_nn hk), p2]
  dsimp only
  rw [setV_vals x.f0 x.f1 _ (vals_len x) hV]
  unfold tailA
  by_cases c : x.f0 = 3
  · obtain ⟨t1, t2⟩ := ttext_encC h c
    rw [if_pos c, t1]
    dsimp only
    rw [t2, if_pos rfl]
    show finA (mkA x.f0 x.f1 (vals x) x.f13) (vals x) [] = _
    rw [mk_vals]
    exact if_pos ⟨rfl, (vals_ten x).1, (vals_ten x).2, h⟩
  · have hz := mayC_zB hC c
    have he : encC x.f0 x.f13.f0 x.f13.f1 x.f13.f2 x.f13.f3 x.f13.f4 = [] := if_neg c
    rw [if_neg c, he, ← hz, mk_vals]
    exact if_pos ⟨rfl, (vals_ten x).1, (vals_ten x).2, h⟩
theorem tupA_bad {x : S43} {c : Int} (h : c ≠ 2) : tupA x c ≠ badA := fun e => h (congrArg (fun t : AR => t.2.2.2.2.2.2.2.2.2.2.2.2.2.2.2.2.2.2) e)
theorem rdec_l0 (x5 w n : List Int) (hw : ∀ p ∈ w, 0 ≤ p ∧ p < 11) (hn : w.length ≤ n.length) (hl : w.length ≤ 1000) (r : ByteArray) (d : Nat) : ∀ (j k : Nat) (V : List Int), V.length = 11 → w.length - j = d → j ≤ w.length → d < k →
    headgateref18_DecodeAsk.l0 k x5 w n r V (j : Int) 0 0 0 0 0 0 0 0 0 0 0 0 false 0 0 0 0 = headgateref18_DecodeAsk.l0 (k - d) x5 w n r (setV V (w.drop j) (n.drop j)) (w.length : Int) 0 0 0 0 0 0 0 0 0 0 0 0 false 0 0 0 0 := by
  induction d with
  | zero =>
    intro j k V hV hd hj hk
    obtain rfl : j = w.length := by omega
    rw [List.drop_length, setV]
    rfl
    intro a b c d e
    cases e
  | succ d ih =>
    intro j k V hV hd hj hk
    obtain ⟨k, rfl⟩ : ∃ m, k = m + 1 := ⟨k - 1, by omega⟩
    have hjl : j < w.length := by omega
    have e1 : wrap64 ((j : Int) + 1) = ((j + 1 : Nat) : Int) := by rw [w64 (by omega) (by omega)]; omega
    obtain ⟨h0, h1⟩ := hw w[j] (List.getElem_mem hjl)
    rw [show k + 1 - (d + 1) = k - d by omega, List.drop_eq_getElem_cons hjl, List.drop_eq_getElem_cons (show j < n.length by omega), setV, ← ih (j + 1) k (V.set w[j].toNat n[j]) (by rw [List.length_set]; exact hV) (by omega) (by omega) (by omega)]
    rw [headgateref18_DecodeAsk.l0, if_pos (by omega), if_pos (by omega), if_pos (by omega), rd_int w j hjl, rd_int n j (by omega), if_pos h0, if_pos (by omega), e1]
theorem rof_eq (kd id : Int) (V : List Int) (h : V.length = 11) : headgateref18_of.f kd id V = some (kd, id, rd V 0, rd V 1, rd V 2, rd V 3, rd V 4, rd V 5, rd V 6, rd V 7, rd V 8, rd V 9, rd V 10 == 1, 0, 0, 0, 0, []) := by
  unfold headgateref18_of.f
  rw [if_pos (by omega), if_pos (by omega), if_pos (by omega), if_pos (by omega), if_pos (by omega), if_pos (by omega), if_pos (by omega), if_pos (by omega), if_pos (by omega), if_pos (by omega), if_pos (by omega)]
theorem rj5_eq (k : Nat) (c : Bool) (x : S43) : headgateref18_DecodeAsk.j5 (k + 1) c 0 0 0 0 0 0 0 0 0 0 0 0 false 0 0 0 0 x.f0 x.f1 x.f2 x.f3 x.f4 x.f5 x.f6 x.f7 x.f8 x.f9 x.f10 x.f11 x.f12 x.f13.f0 x.f13.f1 x.f13.f2 x.f13.f3 x.f13.f4 = some (if c = true then badA else tupA x 0) := by
  rw [headgateref18_DecodeAsk.j5]
  cases c <;> rfl
theorem rj4_eq (k : Nat) (c : Bool) (x : S43) (b0 b1 b2 b3 : Int) (l : List S57) (hb : x.f13 = ⟨b0, b1, b2, b3, l⟩) : headgateref18_DecodeAsk.j4 (k + 1) c 0 0 0 0 0 0 0 0 0 0 0 0 false 0 0 0 0 x.f0 x.f1 x.f2 x.f3 x.f4 x.f5 x.f6 x.f7 x.f8 x.f9 x.f10 x.f11 x.f12 b0 b1 b2 b3 l = some (if c = true then badA else tupA x 0) := by
  rw [headgateref18_DecodeAsk.j4]
  unfold tupA
  rw [hb]
  cases c <;> rfl
theorem rmay_any (x : S43) (k : Nat) (hl : x.f13.f4.length ≤ 9223372036854775800) (hk : x.f13.f4.length + 200 < k) : headgateref18_MayAsk.f k x.f0 x.f1 x.f2 x.f3 x.f4 x.f5 x.f6 x.f7 x.f8 x.f9 x.f10 x.f11 x.f12 x.f13.f0 x.f13.f1 x.f13.f2 x.f13.f3 x.f13.f4 = some (mayA x) := rmayA_eq x k hl hk
theorem rj2_eq (kd id : Int) (V : List Int) (hV : V.length = 11) (r : List UInt8) (hr : r.length ≤ 9000000000000000000) (k : Nat) (hk : 1000 < k) (y : Int) (hy : y = kd) :
    headgateref18_DecodeAsk.j2 k (bs r) V (y == 3) 0 0 0 0 0 0 0 0 0 0 0 0 false 0 0 0 0 kd id (rd V 0) (rd V 1) (rd V 2) (rd V 3) (rd V 4) (rd V 5) (rd V 6) (rd V 7) (rd V 8) (rd V 9) (rd V 10 == 1) 0 0 0 0 [] = some (tailA kd id V r) := by
  subst hy
  obtain ⟨k, rfl⟩ : ∃ m, k = m + 1 + 1 + 1 := ⟨k - 3, by omega⟩
  rw [headgateref18_DecodeAsk.j2]
  unfold tailA
  have fin : ∀ (b : S41) (q : List UInt8), b.f4.length ≤ 64 → (if ((bs q).size : Int) > 0 then some (if true = true then badA else tupA (mkA y id V b) 0) else (if 10 < (V.length : Int) then (if (rd V 10) < 0 then some (if true = true then badA else tupA (mkA y id V b) 0) else (if (rd V 10) > 1 then some (if true = true then badA else tupA (mkA y id V b) 0) else some (if (!mayA (mkA y id V b)) = true then badA else tupA (mkA y id V b) 0))) else none)) = some (finA (mkA y id V b) V q) := fun b q hb => by
    unfold finA
    rw [size_bs]
    by_cases q1 : (q.length : Int) > 0
    · have : q ≠ [] := fun e => by subst e; simp at q1
      rw [if_pos q1, if_pos rfl, if_neg (fun e => this e.1)]
    · have : q = [] := List.eq_nil_of_length_eq_zero (by omega)
      rw [if_neg q1, if_pos (by omega)]
      by_cases q2 : rd V 10 < 0
      · rw [if_pos q2, if_pos rfl, if_neg (fun e => by omega)]
      · rw [if_neg q2]
        by_cases q3 : rd V 10 > 1
        · rw [if_pos q3, if_pos rfl, if_neg (fun e => by omega)]
        · rw [if_neg q3]
          by_cases q4 : mayA (mkA y id V b) = true
          · rw [q4, if_neg (by decide), if_pos ⟨this, by omega, by omega, rfl⟩]
          · rw [Bool.eq_false_iff.2 q4, if_pos (show (!false) = true from rfl), if_neg (fun e => by cases e.2.2.2)]
  by_cases c : y = 3
  · rw [if_pos (beq_iff_eq.mpr c), if_pos c, size_bs, rtakeText_eq r (by omega) _ _ (by omega), Option.bind_some]
    cases ht : ttext r (r.length : Int) with
    | none =>
      have q1 : (textR none).1 = bs [] := rfl
      have q3 : ¬ (textR none).2.2 = 0 := by decide
      rw [q1, rdecode_eq [] (by simp) _ (by omega), Option.bind_some, if_neg q3, headgateref18_DecodeAsk.j3, if_pos rfl]
      rfl
    | some q =>
      obtain ⟨t, r3⟩ := q
      obtain ⟨e1, -⟩ := ttext_some ht
      have hpt : r.length = (enc (t.length : Int)).length + t.length + r3.length := by rw [e1]; unfold ptext; rw [List.length_append, List.length_append]
      rw [textR_1, textR_2, textR_3, rdecode_eq t (by omega) _ (by omega), Option.bind_some, if_pos rfl]
      dsimp only
      by_cases c4 : (decBR t).2.2.2.2.2 = 0
      · have hm := (bB_of t c4).1
        have hlen := (mayB_iff.1 hm).2.1
        rw [if_pos c4, bne_eq_false_iff_eq.mpr c4, headgateref18_DecodeAsk.j3, if_neg (by decide)]
        have h4 : ∀ c, headgateref18_DecodeAsk.j4 (k + 1) c 0 0 0 0 0 0 0 0 0 0 0 0 false 0 0 0 0 y id (rd V 0) (rd V 1) (rd V 2) (rd V 3) (rd V 4) (rd V 5) (rd V 6) (rd V 7) (rd V 8) (rd V 9) (rd V 10 == 1) (decBR t).1 (decBR t).2.1 (decBR t).2.2.1 (decBR t).2.2.2.1 (decBR t).2.2.2.2.1 = some (if c = true then badA else tupA (mkA y id V (bB (decBR t))) 0) := fun c => rj4_eq k c (mkA y id V (bB (decBR t))) _ _ _ _ _ rfl
        have hM : headgateref18_MayAsk.f (k + 1) y id (rd V 0) (rd V 1) (rd V 2) (rd V 3) (rd V 4) (rd V 5) (rd V 6) (rd V 7) (rd V 8) (rd V 9) (rd V 10 == 1) (decBR t).1 (decBR t).2.1 (decBR t).2.2.1 (decBR t).2.2.2.1 (decBR t).2.2.2.2.1 = some (mayA (mkA y id V (bB (decBR t)))) := rmay_any (mkA y id V (bB (decBR t))) (k + 1) (by show (bB (decBR t)).f4.length ≤ _; omega) (by show (bB (decBR t)).f4.length + 200 < _; omega)
        rw [h4, hM, Option.bind_some, h4]
        exact fin (bB (decBR t)) r3 hlen
      · rw [if_neg c4, bne_iff_ne.mpr c4, headgateref18_DecodeAsk.j3, if_pos rfl]
        rfl
  · rw [if_neg (show ¬ ((y == 3) = true) from fun e => c (beq_iff_eq.1 e)), if_neg c]
    have h5 : ∀ c, headgateref18_DecodeAsk.j5 (k + 1 + 1) c 0 0 0 0 0 0 0 0 0 0 0 0 false 0 0 0 0 y id (rd V 0) (rd V 1) (rd V 2) (rd V 3) (rd V 4) (rd V 5) (rd V 6) (rd V 7) (rd V 8) (rd V 9) (rd V 10 == 1) 0 0 0 0 [] = some (if c = true then badA else tupA (mkA y id V zB) 0) := fun c => rj5_eq (k + 1) c (mkA y id V zB)
    have hM : headgateref18_MayAsk.f (k + 1 + 1) y id (rd V 0) (rd V 1) (rd V 2) (rd V 3) (rd V 4) (rd V 5) (rd V 6) (rd V 7) (rd V 8) (rd V 9) (rd V 10 == 1) 0 0 0 0 [] = some (mayA (mkA y id V zB)) := rmay_any (mkA y id V zB) (k + 1 + 1) (by show ([] : List S57).length ≤ _; simp) (by show ([] : List S57).length + 200 < _; simp; omega)
    rw [h5, hM, Option.bind_some, h5]
    exact fin zB r (by show ([] : List S57).length ≤ _; simp)
theorem rdecodeAsk_eq (l : List UInt8) (hl : l.length ≤ 9000000000000000000) (k : Nat) (hk : 3000 ≤ k) : headgateref18_DecodeAsk.f k (bs l) = some (decA l) := by
  obtain ⟨k, rfl⟩ : ∃ m, k = m + 1 := ⟨k - 1, by omega⟩
  unfold headgateref18_DecodeAsk.f decA
  have j0t : ∀ x w n r, headgateref18_DecodeAsk.j0 (k + 1) x w n r true 0 0 0 0 0 0 0 0 0 0 0 0 false 0 0 0 0 = some badA := fun x w n r => by rw [headgateref18_DecodeAsk.j0, if_pos rfl]; rfl
  rw [rtakeAll_eq l (by omega) 2 _ (by omega), Option.bind_some, show takeAllR l 2 = allR (decN 2 l) from if_neg (by omega)]
  cases hd : decN 2 l with
  | none => rfl
  | some q =>
    obtain ⟨h, r⟩ := q
    obtain ⟨e1, h2, -⟩ := (decN_iff _ _ _ _).1 hd
    have hrl : r.length ≤ l.length := by rw [e1, List.length_append]; omega
    have q1 : (allR (some (h, r))).1 = h := rfl
    have q2 : (allR (some (h, r))).2.1 = bs r := rfl
    have q3 : (allR (some (h, r))).2.2 = 0 := rfl
    rw [q1, q2, q3, if_pos rfl, if_pos (by omega), rwhich_eq _ _ (by omega), Option.bind_some, rtakeAll_eq r (by omega) _ _ (by omega), Option.bind_some, j0t]
    dsimp only
    by_cases c : ws (rd h 0) = []
    · rw [if_pos (by rw [c]; rfl), if_pos c]
    · have hwl : (ws (rd h 0)).length ≤ 7 := ws_len _
      have hwp : 0 < (ws (rd h 0)).length := List.length_pos_iff.2 c
      rw [if_neg (by omega), if_neg c, show takeAllR r ((ws (rd h 0)).length : Int) = allR (decN (ws (rd h 0)).length r) from if_neg (by omega)]
      cases hn : decN (ws (rd h 0)).length r with
      | none => rw [show ((allR none).2.2 != 0) = true from rfl, j0t]
      | some q =>
        obtain ⟨n, r2⟩ := q
        obtain ⟨e2, hn2, -⟩ := (decN_iff _ _ _ _).1 hn
        have hr2 : r2.length ≤ r.length := by rw [e2, List.length_append]; omega
        have q1 : (allR (some (n, r2))).1 = n := rfl
        have q2 : (allR (some (n, r2))).2.1 = bs r2 := rfl
        have q3 : ((allR (some (n, r2))).2.2 != 0) = false := rfl
        rw [q1, q2, q3, headgateref18_DecodeAsk.j0, if_neg (by decide)]
        dsimp only
        have h0 := rdec_l0 h (ws (rd h 0)) n (ws_bd _) (by omega) (by omega) (bs r2) (ws (rd h 0)).length 0 k zv rfl (by omega) (by omega) (by omega)
        refine h0.trans ?_
        rw [List.drop_zero, List.drop_zero]
        have hV : (setV zv (ws (rd h 0)) n).length = 11 := by rw [setV_len]; rfl
        generalize setV zv (ws (rd h 0)) n = V at hV
        obtain ⟨m, hm⟩ : ∃ m, k - (ws (rd h 0)).length = m + 1 := ⟨k - (ws (rd h 0)).length - 1, by omega⟩
        rw [hm, headgateref18_DecodeAsk.l0, if_neg (by omega), if_pos (by omega), if_pos (by omega), rof_eq _ _ V hV, Option.bind_some]
        dsimp only
        exact rj2_eq (rd h 0) (rd h 1) V hV r2 (by omega) m (by omega) _ rfl
def setF (F : Int → Int) : List Int → List Int → Int → Int
  | o :: os, v :: vs => setF (upd F o v) os vs
  | _, _ => F
theorem dec_l0 (os n : List Int) (hos : ∀ o ∈ os, 2 ≤ o ∧ o ≤ 11) (hl : os.length ≤ 100) (hn : os.length ≤ n.length) (s r : ByteArray) (m kd id : Int) (yes : Bool) (d : Nat) : ∀ (j k : Nat) (F : Int → Int), os.length - j = d → j ≤ os.length → d < k →
    wire_DecodeAsk.l0 k s r m n os (os.length : Int) (j : Int) kd id (F 2) (F 3) (F 4) (F 5) (F 6) (F 7) (F 8) (F 9) (F 10) (F 11) yes 0 0 0 0 = wire_DecodeAsk.l0 (k - d) s r m n os (os.length : Int) (os.length : Int) kd id (setF F (os.drop j) (n.drop j) 2) (setF F (os.drop j) (n.drop j) 3) (setF F (os.drop j) (n.drop j) 4) (setF F (os.drop j) (n.drop j) 5) (setF F (os.drop j) (n.drop j) 6) (setF F (os.drop j) (n.drop j) 7) (setF F (os.drop j) (n.drop j) 8) (setF F (os.drop j) (n.drop j) 9) (setF F (os.drop j) (n.drop j) 10) (setF F (os.drop j) (n.drop j) 11) yes 0 0 0 0 := by
  induction d with
  | zero =>
    intro j k F hd hj hk
    obtain rfl : j = os.length := by omega
    rw [List.drop_length, setF]
    rfl
    intro a b c d e
    cases e
  | succ d ih =>
    intro j k F hd hj hk
    obtain ⟨k, rfl⟩ : ∃ m, k = m + 1 := ⟨k - 1, by omega⟩
    have hjl : j < os.length := by omega
    have e1 : wrap64 ((j : Int) + 1) = ((j + 1 : Nat) : Int) := by rw [w64 (by omega) (by omega)]; omega
    obtain ⟨h2, h11⟩ := hos os[j] (List.getElem_mem hjl)
    have := ih (j + 1) k (upd F os[j] n[j]) (by omega) (by omega) (by omega)
    rw [show k + 1 - (d + 1) = k - d by omega, List.drop_eq_getElem_cons hjl, List.drop_eq_getElem_cons (show j < n.length by omega), setF, ← this]
    rw [wire_DecodeAsk.l0, if_pos (by omega), if_pos (by omega), if_pos (by omega), if_pos (by omega), rd_int os j hjl, rd_int n j (by omega), if_pos h2, if_pos h11, e1]
    rfl
def cnt (kd : Int) : Nat := (wire_fields.o kd).length + if flg kd = true then 1 else 0
def yesOf (kd : Int) (n : List Int) : Bool := flg kd && (rd n ((cnt kd : Int) - 1) == 1)
def textOf (r : List UInt8) : List UInt8 := match ttext r (r.length : Int) with
  | some (t, _) => t
  | none => []
def askOf (kd id : Int) (n : List Int) (r : List UInt8) : S43 := ⟨kd, id, setF (fun _ => 0) (wire_fields.o kd) n 2, setF (fun _ => 0) (wire_fields.o kd) n 3, setF (fun _ => 0) (wire_fields.o kd) n 4, setF (fun _ => 0) (wire_fields.o kd) n 5, setF (fun _ => 0) (wire_fields.o kd) n 6, setF (fun _ => 0) (wire_fields.o kd) n 7, setF (fun _ => 0) (wire_fields.o kd) n 8, setF (fun _ => 0) (wire_fields.o kd) n 9, setF (fun _ => 0) (wire_fields.o kd) n 10, setF (fun _ => 0) (wire_fields.o kd) n 11, yesOf kd n, if kd = 3 then bB (decBR (textOf r)) else zB⟩
def parseA (l : List UInt8) : Option S43 := match decN 2 l with
  | some (h, r) => if 1 ≤ rd h 0 ∧ rd h 0 ≤ 11 then match decN (cnt (rd h 0)) r with
    | some (n, r2) => some (askOf (rd h 0) (rd h 1) n r2)
    | none => none
    else none
  | none => none
theorem cnt_ws {kd : Int} (h : 1 ≤ kd ∧ kd ≤ 11) : cnt kd = (ws kd).length := by
  rcases kinds h with rfl | rfl | rfl | rfl | rfl | rfl | rfl | rfl | rfl | rfl | rfl <;> decide
theorem cnt_le (kd : Int) : cnt kd ≤ 8 := by
  have := ofs_len kd
  unfold cnt
  split <;> omega
theorem setF_vals (kd id v0 v1 v2 v3 v4 v5 v6 v7 v8 v9 : Int) (yes : Bool) (h : mayV kd id [v0, v1, v2, v3, v4, v5, v6, v7, v8, v9, if yes = true then 1 else 0] = true) : setF (fun _ => 0) (wire_fields.o kd) ((ws kd).map (rd [v0, v1, v2, v3, v4, v5, v6, v7, v8, v9, if yes = true then 1 else 0])) 2 = v0 ∧ setF (fun _ => 0) (wire_fields.o kd) ((ws kd).map (rd [v0, v1, v2, v3, v4, v5, v6, v7, v8, v9, if yes = true then 1 else 0])) 3 = v1 ∧ setF (fun _ => 0) (wire_fields.o kd) ((ws kd).map (rd [v0, v1, v2, v3, v4, v5, v6, v7, v8, v9, if yes = true then 1 else 0])) 4 = v2 ∧ setF (fun _ => 0) (wire_fields.o kd) ((ws kd).map (rd [v0, v1, v2, v3, v4, v5, v6, v7, v8, v9, if yes = true then 1 else 0])) 5 = v3 ∧ setF (fun _ => 0) (wire_fields.o kd) ((ws kd).map (rd [v0, v1, v2, v3, v4, v5, v6, v7, v8, v9, if yes = true then 1 else 0])) 6 = v4 ∧ setF (fun _ => 0) (wire_fields.o kd) ((ws kd).map (rd [v0, v1, v2, v3, v4, v5, v6, v7, v8, v9, if yes = true then 1 else 0])) 7 = v5 ∧ setF (fun _ => 0) (wire_fields.o kd) ((ws kd).map (rd [v0, v1, v2, v3, v4, v5, v6, v7, v8, v9, if yes = true then 1 else 0])) 8 = v6 ∧ setF (fun _ => 0) (wire_fields.o kd) ((ws kd).map (rd [v0, v1, v2, v3, v4, v5, v6, v7, v8, v9, if yes = true then 1 else 0])) 9 = v7 ∧ setF (fun _ => 0) (wire_fields.o kd) ((ws kd).map (rd [v0, v1, v2, v3, v4, v5, v6, v7, v8, v9, if yes = true then 1 else 0])) 10 = v8 ∧ setF (fun _ => 0) (wire_fields.o kd) ((ws kd).map (rd [v0, v1, v2, v3, v4, v5, v6, v7, v8, v9, if yes = true then 1 else 0])) 11 = v9 ∧ yesOf kd ((ws kd).map (rd [v0, v1, v2, v3, v4, v5, v6, v7, v8, v9, if yes = true then 1 else 0])) = yes := by
  have hk := mayV_kd h
  have hr : List.range' 0 11 = [0, 1, 2, 3, 4, 5, 6, 7, 8, 9, 10] := rfl
  have h2 := mayV_zero h
  rw [hr] at h2
  clear h
  rcases kinds hk with rfl | rfl | rfl | rfl | rfl | rfl | rfl | rfl | rfl | rfl | rfl <;> cases yes <;> simp [ws, rd] at h2 <;> simp [ws, setF, upd, rd, wire_fields.o, yesOf, cnt, flg, h2]
theorem parseA_enc {x : S43} (h : mayA x = true) : parseA (encA x) = some x := by
  obtain ⟨hV, hC⟩ := mayA_iff.1 h
  have hk := mayV_kd hV
  obtain ⟨p1, p2⟩ := encA_parts x h
  unfold parseA
  rw [p1]
  show (if 1 ≤ x.f0 ∧ x.f0 ≤ 11 then match decN (cnt x.f0) (((ws x.f0).map (rd (vals x))).flatMap enc ++ encC x.f0 x.f13.f0 x.f13.f1 x.f13.f2 x.f13.f3 x.f13.f4) with
    | some (n, r2) => some (askOf x.f0 x.f1 n r2)
    | none => none
    else none) = _
  rw [if_pos hk, cnt_ws hk, p2]
  dsimp only
  have hb : (if x.f0 = 3 then bB (decBR (textOf (encC x.f0 x.f13.f0 x.f13.f1 x.f13.f2 x.f13.f3 x.f13.f4))) else zB) = x.f13 := by
    by_cases c : x.f0 = 3
    · obtain ⟨t1, t2⟩ := ttext_encC h c
      rw [if_pos c]
      unfold textOf
      rw [t1]
      dsimp only
      rw [t2]
      rfl
    · rw [if_neg c]
      exact (mayC_zB hC c).symm
  unfold askOf
  rw [hb]
  obtain ⟨x0, x1, x2, x3, x4, x5, x6, x7, x8, x9, x10, x11, x12, x13⟩ := x
  obtain ⟨g0, g1, g2, g3, g4, g5, g6, g7, g8, g9, g10⟩ := setF_vals x0 x1 x2 x3 x4 x5 x6 x7 x8 x9 x10 x11 x12 hV
  have hv : ∀ b, vals ⟨x0, x1, x2, x3, x4, x5, x6, x7, x8, x9, x10, x11, x12, b⟩ = [x2, x3, x4, x5, x6, x7, x8, x9, x10, x11, if x12 = true then 1 else 0] := fun b => rfl
  dsimp only
  rw [hv, g0, g1, g2, g3, g4, g5, g6, g7, g8, g9, g10]
theorem setF_i64 (os : List Int) : ∀ (n : List Int) (F : Int → Int) (i : Int), (∀ j, I64 (F j)) → (∀ v ∈ n, I64 v) → I64 (setF F os n i) := by
  induction os with
  | nil => intro n F i hF _; rw [setF]; exact hF i; intro a b c d e; cases e
  | cons o r ih =>
    intro n F i hF hn
    cases n with
    | nil => rw [setF]; exact hF i; intro a b c d e f; cases f
    | cons v vs =>
      rw [setF]
      refine ih vs _ i (fun j => ?_) (fun y hy => hn y (List.mem_cons_of_mem _ hy))
      unfold upd
      split
      · exact hn v (List.mem_cons_self ..)
      · exact hF j
theorem decBR_len (t : List UInt8) : (bB (decBR t)).f4.length ≤ 64 := by
  rcases decBR_or t with h | h
  · exact (mayB_iff.1 (bB_of t h).1).2.1
  · unfold bB; rw [h]; simp [bad]
theorem zv_i64 : I64 0 := by unfold I64; omega
theorem askOf_ok (kd id : Int) (n : List Int) (r : List UInt8) (h0 : I64 kd) (h1 : I64 id) (hn : ∀ v ∈ n, I64 v) : okA (askOf kd id n r) ∧ (askOf kd id n r).f13.f4.length ≤ 64 := by
  have hf : ∀ i, I64 (setF (fun _ => 0) (wire_fields.o kd) n i) := fun i => setF_i64 _ n _ i (fun _ => zv_i64) hn
  have hb : (askOf kd id n r).f13.f4.length ≤ 64 := by
    show (if kd = 3 then bB (decBR (textOf r)) else zB).f4.length ≤ 64
    split
    · exact decBR_len _
    · exact Nat.zero_le _
  refine ⟨⟨h0, h1, fun v hv => ?_, by omega⟩, hb⟩
  have e : vals (askOf kd id n r) = [setF (fun _ => 0) (wire_fields.o kd) n 2, setF (fun _ => 0) (wire_fields.o kd) n 3, setF (fun _ => 0) (wire_fields.o kd) n 4, setF (fun _ => 0) (wire_fields.o kd) n 5, setF (fun _ => 0) (wire_fields.o kd) n 6, setF (fun _ => 0) (wire_fields.o kd) n 7, setF (fun _ => 0) (wire_fields.o kd) n 8, setF (fun _ => 0) (wire_fields.o kd) n 9, setF (fun _ => 0) (wire_fields.o kd) n 10, setF (fun _ => 0) (wire_fields.o kd) n 11, if yesOf kd n = true then 1 else 0] := rfl
  rw [e] at hv
  simp only [List.mem_cons, List.not_mem_nil, or_false] at hv
  rcases hv with rfl | rfl | rfl | rfl | rfl | rfl | rfl | rfl | rfl | rfl | rfl
  · exact hf 2
  · exact hf 3
  · exact hf 4
  · exact hf 5
  · exact hf 6
  · exact hf 7
  · exact hf 8
  · exact hf 9
  · exact hf 10
  · exact hf 11
  · split
    · unfold I64; omega
    · exact zv_i64
theorem dec_j3 (s : List UInt8) (kd id : Int) (n : List Int) (r : List UInt8) (h0 : I64 kd) (h1 : I64 id) (hn : ∀ v ∈ n, I64 v) (hr : r.length ≤ 9000000000000000000) (k : Nat) (hk : 1000 < k) :
    wire_DecodeAsk.j3 k (bs s) (bs r) kd id (setF (fun _ => 0) (wire_fields.o kd) n 2) (setF (fun _ => 0) (wire_fields.o kd) n 3) (setF (fun _ => 0) (wire_fields.o kd) n 4) (setF (fun _ => 0) (wire_fields.o kd) n 5) (setF (fun _ => 0) (wire_fields.o kd) n 6) (setF (fun _ => 0) (wire_fields.o kd) n 7) (setF (fun _ => 0) (wire_fields.o kd) n 8) (setF (fun _ => 0) (wire_fields.o kd) n 9) (setF (fun _ => 0) (wire_fields.o kd) n 10) (setF (fun _ => 0) (wire_fields.o kd) n 11) (yesOf kd n) 0 0 0 0 = some (if mayA (askOf kd id n r) = true ∧ encA (askOf kd id n r) = s then tupA (askOf kd id n r) 0 else badA) := by
  obtain ⟨k, rfl⟩ : ∃ m, k = m + 1 := ⟨k - 1, by omega⟩
  obtain ⟨hok, hb⟩ := askOf_ok kd id n r h0 h1 hn
  have he := encodeAsk_eq (askOf kd id n r) hok k (by omega)
  rw [wire_DecodeAsk.j3]
  have fin : (if (encodeA (askOf kd id n r)).2 = 0 then (if (encodeA (askOf kd id n r)).1.toList = (bs s).toList then some (tupA (askOf kd id n r) 0) else some badA) else some badA) = some (if mayA (askOf kd id n r) = true ∧ encA (askOf kd id n r) = s then tupA (askOf kd id n r) 0 else badA) := by
    unfold encodeA
    by_cases m : mayA (askOf kd id n r) = true
    · rw [if_pos m, if_pos rfl]
      dsimp only
      rw [toList_bs, toList_bs]
      by_cases q : encA (askOf kd id n r) = s
      · rw [if_pos q, if_pos ⟨m, q⟩]
      · rw [if_neg q, if_neg (fun e => q e.2)]
    · rw [if_neg m, if_neg (by decide), if_neg (fun e => m e.1)]
  by_cases c : kd = 3
  · rw [if_pos c, size_bs, takeText_eq r (by omega) _, Option.bind_some]
    have ht : (textR (ttext r (r.length : Int))).1 = bs (textOf r) := by
      unfold textOf
      cases ttext r (r.length : Int) with
      | none => rfl
      | some q => rfl
    have hl : (textOf r).length ≤ r.length := by
      unfold textOf
      cases ht : ttext r (r.length : Int) with
      | none => simp
      | some q =>
        obtain ⟨t, r3⟩ := q
        obtain ⟨e1, -⟩ := ttext_some ht
        dsimp only
        rw [e1]; unfold ptext; simp only [List.length_append]; omega
    rw [ht, decode_eq (textOf r) (by omega) _ (by omega), Option.bind_some]
    have hbb : (askOf kd id n r).f13 = bB (decBR (textOf r)) := if_pos c
    have he2 : wire_EncodeAsk.f k kd id (setF (fun _ => 0) (wire_fields.o kd) n 2) (setF (fun _ => 0) (wire_fields.o kd) n 3) (setF (fun _ => 0) (wire_fields.o kd) n 4) (setF (fun _ => 0) (wire_fields.o kd) n 5) (setF (fun _ => 0) (wire_fields.o kd) n 6) (setF (fun _ => 0) (wire_fields.o kd) n 7) (setF (fun _ => 0) (wire_fields.o kd) n 8) (setF (fun _ => 0) (wire_fields.o kd) n 9) (setF (fun _ => 0) (wire_fields.o kd) n 10) (setF (fun _ => 0) (wire_fields.o kd) n 11) (yesOf kd n) (decBR (textOf r)).1 (decBR (textOf r)).2.1 (decBR (textOf r)).2.2.1 (decBR (textOf r)).2.2.2.1 (decBR (textOf r)).2.2.2.2.1 = some (encodeA (askOf kd id n r)) := by
      rw [← he, hbb]
      rfl
    rw [he2, Option.bind_some]
    refine Eq.trans ?_ fin
    have ht2 : tupA (askOf kd id n r) 0 = (kd, id, setF (fun _ => 0) (wire_fields.o kd) n 2, setF (fun _ => 0) (wire_fields.o kd) n 3, setF (fun _ => 0) (wire_fields.o kd) n 4, setF (fun _ => 0) (wire_fields.o kd) n 5, setF (fun _ => 0) (wire_fields.o kd) n 6, setF (fun _ => 0) (wire_fields.o kd) n 7, setF (fun _ => 0) (wire_fields.o kd) n 8, setF (fun _ => 0) (wire_fields.o kd) n 9, setF (fun _ => 0) (wire_fields.o kd) n 10, setF (fun _ => 0) (wire_fields.o kd) n 11, yesOf kd n, (decBR (textOf r)).1, (decBR (textOf r)).2.1, (decBR (textOf r)).2.2.1, (decBR (textOf r)).2.2.2.1, (decBR (textOf r)).2.2.2.2.1, 0) := by
      unfold tupA
      rw [hbb]
      rfl
    rw [ht2]
    rfl
  · rw [if_neg c]
    have hbb : (askOf kd id n r).f13 = zB := if_neg c
    have he2 : wire_EncodeAsk.f k kd id (setF (fun _ => 0) (wire_fields.o kd) n 2) (setF (fun _ => 0) (wire_fields.o kd) n 3) (setF (fun _ => 0) (wire_fields.o kd) n 4) (setF (fun _ => 0) (wire_fields.o kd) n 5) (setF (fun _ => 0) (wire_fields.o kd) n 6) (setF (fun _ => 0) (wire_fields.o kd) n 7) (setF (fun _ => 0) (wire_fields.o kd) n 8) (setF (fun _ => 0) (wire_fields.o kd) n 9) (setF (fun _ => 0) (wire_fields.o kd) n 10) (setF (fun _ => 0) (wire_fields.o kd) n 11) (yesOf kd n) 0 0 0 0 [] = some (encodeA (askOf kd id n r)) := by
      rw [← he, hbb]
      rfl
    rw [he2, Option.bind_some]
    refine Eq.trans ?_ fin
    have ht2 : tupA (askOf kd id n r) 0 = (kd, id, setF (fun _ => 0) (wire_fields.o kd) n 2, setF (fun _ => 0) (wire_fields.o kd) n 3, setF (fun _ => 0) (wire_fields.o kd) n 4, setF (fun _ => 0) (wire_fields.o kd) n 5, setF (fun _ => 0) (wire_fields.o kd) n 6, setF (fun _ => 0) (wire_fields.o kd) n 7, setF (fun _ => 0) (wire_fields.o kd) n 8, setF (fun _ => 0) (wire_fields.o kd) n 9, setF (fun _ => 0) (wire_fields.o kd) n 10, setF (fun _ => 0) (wire_fields.o kd) n 11, yesOf kd n, 0, 0, 0, 0, [], 0) := by
      unfold tupA
      rw [hbb]
      rfl
    rw [ht2]
    rfl
theorem decodeAsk_eq (l : List UInt8) (hl : l.length ≤ 9000000000000000000) (k : Nat) (hk : 3000 ≤ k) : wire_DecodeAsk.f k (bs l) = some (decA l) := by
  have key : wire_DecodeAsk.f k (bs l) = some (match parseA l with | some a => if mayA a = true ∧ encA a = l then tupA a 0 else badA | none => badA) := by
    obtain ⟨k, rfl⟩ : ∃ m, k = m + 1 + 1 := ⟨k - 2, by omega⟩
    unfold wire_DecodeAsk.f parseA
    rw [takeAll_eq l (by omega) 2 _ (by omega), Option.bind_some, show takeAllR l 2 = allR (decN 2 l) from if_neg (by omega)]
    cases hd : decN 2 l with
    | none => rfl
    | some q =>
      obtain ⟨h, r⟩ := q
      obtain ⟨e1, h2, hi⟩ := (decN_iff _ _ _ _).1 hd
      have hrl : r.length ≤ l.length := by rw [e1, List.length_append]; omega
      have q1 : (allR (some (h, r))).1 = h := rfl
      have q2 : (allR (some (h, r))).2.1 = bs r := rfl
      have q3 : (allR (some (h, r))).2.2 = 0 := rfl
      have i0 : I64 (rd h 0) := hi _ (by rw [two_len h2]; exact List.mem_cons_self ..)
      have i1 : I64 (rd h 1) := hi _ (by rw [two_len h2]; exact List.mem_cons_of_mem _ (List.mem_cons_self ..))
      rw [q1, q2, q3, if_pos rfl, if_pos (by omega), if_pos (by omega)]
      unfold wire_fields.f
      rw [Option.bind_some, flagged_eq, Option.bind_some]
      dsimp only
      generalize rd h 0 = kd at i0
      generalize rd h 1 = id at i1
      have hc : (if flg kd = true then (wire_DecodeAsk.j0 (k + 1 + 1) (bs l) (bs r) (wire_fields.o kd) (decide (1 ≤ kd ∧ kd ≤ 11)) (wrap64 (((wire_fields.o kd).length : Int) + 1)) kd id 0 0 0 0 0 0 0 0 0 0 false 0 0 0 0) else (wire_DecodeAsk.j0 (k + 1 + 1) (bs l) (bs r) (wire_fields.o kd) (decide (1 ≤ kd ∧ kd ≤ 11)) ((wire_fields.o kd).length : Int) kd id 0 0 0 0 0 0 0 0 0 0 false 0 0 0 0)) = wire_DecodeAsk.j0 (k + 1 + 1) (bs l) (bs r) (wire_fields.o kd) (decide (1 ≤ kd ∧ kd ≤ 11)) (cnt kd : Int) kd id 0 0 0 0 0 0 0 0 0 0 false 0 0 0 0 := by
        have := ofs_len kd
        unfold cnt
        cases flg kd with
        | true => rw [if_pos rfl, if_pos rfl, w64 (by omega) (by omega)]; rfl
        | false => rw [if_neg (by decide), if_neg (by decide)]; rfl
      rw [hc, wire_DecodeAsk.j0]
      have hcl := cnt_le kd
      rw [takeAll_eq r (by omega) _ _ (by omega), Option.bind_some, show takeAllR r (cnt kd : Int) = allR (decN (cnt kd) r) from if_neg (by omega)]
      have j1t : ∀ r n, wire_DecodeAsk.j1 (k + 1) (bs l) r (wire_fields.o kd) (cnt kd : Int) n true kd id 0 0 0 0 0 0 0 0 0 0 false 0 0 0 0 = some badA := fun r n => by rw [wire_DecodeAsk.j1, if_pos rfl]; rfl
      rw [j1t]
      by_cases c : 1 ≤ kd ∧ kd ≤ 11
      · rw [decide_eq_true c, if_pos rfl, if_pos c]
        cases hn : decN (cnt kd) r with
        | none => rw [show ((allR none).2.2 != 0) = true from rfl, j1t]
        | some q =>
          obtain ⟨n, r2⟩ := q
          obtain ⟨e2, hn2, hni⟩ := (decN_iff _ _ _ _).1 hn
          have hr2 : r2.length ≤ r.length := by rw [e2, List.length_append]; omega
          have q1 : (allR (some (n, r2))).1 = n := rfl
          have q2 : (allR (some (n, r2))).2.1 = bs r2 := rfl
          have q3 : ((allR (some (n, r2))).2.2 != 0) = false := rfl
          rw [q1, q2, q3, wire_DecodeAsk.j1, if_neg (by decide)]
          dsimp only
          have hol := ofs_len kd
          have hcn : (wire_fields.o kd).length ≤ n.length := by rw [hn2]; unfold cnt; omega
          have h0 := dec_l0 (wire_fields.o kd) n (ofs_bd kd) (by omega) hcn (bs l) (bs r2) (cnt kd : Int) kd id false (wire_fields.o kd).length 0 k (fun _ => 0) (by omega) (by omega) (by omega)
          refine h0.trans ?_
          rw [List.drop_zero, List.drop_zero]
          obtain ⟨m, hm⟩ : ∃ m, k - (wire_fields.o kd).length = m + 1 := ⟨k - (wire_fields.o kd).length - 1, by omega⟩
          have h3 := dec_j3 l kd id n r2 i0 i1 hni (by omega) m (by omega)
          rw [hm, wire_DecodeAsk.l0, if_neg (by omega), flagged_eq, Option.bind_some]
          by_cases hf : flg kd = true
          · have hcp : 1 ≤ cnt kd := by unfold cnt; rw [if_pos hf]; omega
            rw [if_pos hf, w64 (by omega) (by omega), if_pos (by omega), if_pos (by omega)]
            unfold yesOf at h3
            rw [hf, Bool.true_and] at h3
            exact h3
          · rw [if_neg hf]
            unfold yesOf at h3
            rw [Bool.eq_false_iff.2 hf, Bool.false_and] at h3
            exact h3
      · rw [decide_eq_false c, if_neg (by decide), if_neg c]
  rw [key]
  refine congrArg some ?_
  rcases decA_or l with h | ⟨x, h, hm, he⟩
  · rw [h]
    cases parseA l with
    | none => rfl
    | some a =>
      dsimp only
      split
      · rename_i q
        exact absurd (by rw [← h, ← q.2]; exact (decA_enc q.1).symm) (tupA_bad (x := a) (c := 0) (by decide))
      · rfl
  · rw [h, he, parseA_enc hm]
    exact if_pos ⟨hm, rfl⟩
end Go.Proofs.Ytikbpjdgihheiaa.Gd
set_option linter.unusedVariables false
set_option linter.unusedSimpArgs false
namespace Go.Proofs.Ytikbpjdgihheiaa.Pure
open Go.RowKit Go.Proofs.Ytikbpjdgihheiaa.Vm Go.Proofs.Ytikbpjdgihheiaa.Vref Go.Proofs.Ytikbpjdgihheiaa.Vp Go.Proofs.Ytikbpjdgihheiaa.Bt Go.Proofs.Ytikbpjdgihheiaa.Be Go.Proofs.Ytikbpjdgihheiaa.Bd Go.Proofs.Ytikbpjdgihheiaa.Wr Go.Proofs.Ytikbpjdgihheiaa.Wa Go.Proofs.Ytikbpjdgihheiaa.Gd Go.Proofs.Ytikbpjdgihheiaa.P Go.Proofs.YtikbpjdgihheiaaW.PrintWords Go.Proofs.YtikbpjdgihheiaaW.PrintLast
theorem WireAsks : headgatelaw18_WireAsks.Pure := by
  intro a0 a1 a2 a3 a4 a5 a6 a7 a8 a9 a10 a11 a12 a13 a14 a15 a16 l s w0 w1 w2 w3 w4 w5 w6 w7 w8 w9 w10 w11 w13 w14 w15 w16 wl hs
  obtain ⟨s, rfl⟩ := bs_of s
  refine ⟨l.length + 10000 + 1, ?_⟩
  have jt : headgatelaw18_WireAsks.j0 (l.length + 10000 + 1) (bs s) true a0 a1 a2 a3 a4 a5 a6 a7 a8 a9 a10 a11 a12 a13 a14 a15 a16 l = some true := by
    rw [headgatelaw18_WireAsks.j0, if_pos rfl, Wa.awake_eq _ (by omega), Option.bind_some]
  have ok : okA (⟨a0, a1, a2, a3, a4, a5, a6, a7, a8, a9, a10, a11, a12, ⟨a13, a14, a15, a16, l⟩⟩ : S43) := ⟨i64_of w0, i64_of w1, fun v hv => by
    simp only [vals, List.mem_cons, List.not_mem_nil, or_false] at hv
    rcases hv with rfl | rfl | rfl | rfl | rfl | rfl | rfl | rfl | rfl | rfl | rfl
    · exact i64_of w2
    · exact i64_of w3
    · exact i64_of w4
    · exact i64_of w5
    · exact i64_of w6
    · exact i64_of w7
    · exact i64_of w8
    · exact i64_of w9
    · exact i64_of w10
    · exact i64_of w11
    · split <;> (unfold I64; omega), wl.1⟩
  unfold headgatelaw18_WireAsks.f
  rw [Bt.light_eq a13 a14 a15 a16 l wl.1 _ (by omega), Option.bind_some, jt]
  by_cases c : light l = true
  · rw [if_pos c]
    by_cases c2 : ((bs s).size : Int) > 5000
    · rw [decide_eq_true c2, jt]
    · rw [decide_eq_false c2, headgatelaw18_WireAsks.j0, if_neg (by decide)]
      rw [size_bs] at c2
      have hl : l.length ≤ 70 := by
        unfold light at c
        rw [Bool.and_eq_true, decide_eq_true_iff] at c
        exact c.1
      have h1 := encodeAsk_eq (⟨a0, a1, a2, a3, a4, a5, a6, a7, a8, a9, a10, a11, a12, ⟨a13, a14, a15, a16, l⟩⟩ : S43) ok (l.length + 10000) (by show l.length + 100 < _; omega)
      have h2 := rencodeAsk_eq (⟨a0, a1, a2, a3, a4, a5, a6, a7, a8, a9, a10, a11, a12, ⟨a13, a14, a15, a16, l⟩⟩ : S43) (l.length + 10000) (by show l.length ≤ _; omega) (by show l.length + 300 < _; omega)
      dsimp only at h1 h2
      rw [h1, Option.bind_some, h2, Option.bind_some, decodeAsk_eq s (by omega) _ (by omega), Option.bind_some, rdecodeAsk_eq s (by omega) _ (by omega), Option.bind_some, if_pos rfl, if_pos rfl]
      have hs : ∃ x c, decA s = tupA x c ∧ x.f13.f4.length ≤ 64 := by
        rcases decA_or s with h | ⟨x, h, hm, he⟩
        · exact ⟨mkA 0 0 zv zB, 2, h, by show ([] : List S57).length ≤ 64; simp⟩
        · refine ⟨x, 0, h, ?_⟩
          have hC := (mayA_iff.1 hm).2
          unfold mayC zb at hC
          split at hC
          · exact (mayB_iff.1 hC).2.1
          · rw [decide_eq_true_iff] at hC; omega
      obtain ⟨x, c3, h3, hx⟩ := hs
      rw [h3]
      have h4 := sameAsk_self x (l.length + 10000) (by omega) (by omega)
      unfold tupA
      dsimp only
      rw [h4, Option.bind_some, if_pos rfl, if_pos rfl, Wa.awake_eq _ (by omega), Option.bind_some]
  · rw [if_neg c]
end Go.Proofs.Ytikbpjdgihheiaa.Pure
