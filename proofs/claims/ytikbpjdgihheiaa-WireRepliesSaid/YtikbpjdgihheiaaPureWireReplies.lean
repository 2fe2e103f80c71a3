/- WireReplies, plain: any reply has the bytes that the document says, or may not be; any bytes are a reply's that may be, or none's. -/
import Derived.Test.YtikbpjdgihheiaaPx3
import Derived.Test.YtikbpjdgihheiaaPx4
import Derived.Test.YtikbpjdgihheiaaPx5
import Derived.Test.YtikbpjdgihheiaaPx6
import Derived.Test.YtikbpjdgihheiaaPx7
import Derived.Test.YtikbpjdgihheiaaPx8
import Derived.Test.YtikbpjdgihheiaaPx9
import Derived.Test.YtikbpjdgihheiaaPx10
import Derived.Test.YtikbpjdgihheiaaPx11
import Derived.Test.YtikbpjdgihheiaaPx12
import Derived.Test.YtikbpjdgihheiaaPx13
import Derived.Test.YtikbpjdgihheiaaPx14
import Derived.Test.YtikbpjdgihheiaaPx15
import Derived.Test.YtikbpjdgihheiaaPx16
import Derived.Test.YtikbpjdgihheiaaPx17
import Derived.Test.YtikbpjdgihheiaaPx18
import Derived.Test.YtikbpjdgihheiaaPx19
import Derived.Test.YtikbpjdgihheiaaPx20
import Derived.Test.YtikbpjdgihheiaaPx21
import Derived.Test.YtikbpjdgihheiaaPx22
import Derived.Test.YtikbpjdgihheiaaPx23
import Derived.Test.YtikbpjdgihheiaaPx24
import Derived.Test.YtikbpjdgihheiaaPx25
import Derived.Test.YtikbpjdgihheiaaPx26
import Derived.Test.YtikbpjdgihheiaaVm
import Derived.Laws.Bits64
set_option linter.unusedVariables false
set_option linter.unusedSimpArgs false
namespace Go.Proofs.Ytikbpjdgihheiaa.Vref
open Go.RowKit Go.Proofs.Ytikbpjdgihheiaa.Vm Go.Proofs.Ytikbpjdgihheiaa.P Go.Proofs.YtikbpjdgihheiaaW.PrintWords
theorem u64w (n : Int) : IntKind.u64.wrap n = n % 18446744073709551616 := IntKind.wrap_u64 n
theorem w64 {x : Int} (h0 : -9223372036854775808 ≤ x) (h1 : x ≤ 9223372036854775807) : wrap64 x = x := by unfold wrap64; omega
def toB (xs : List Int) : List UInt8 := xs.map fun n => UInt8.ofNat n.toNat
theorem toB_snoc (xs : List Int) (n : Int) : toB (xs ++ [n]) = toB xs ++ [UInt8.ofNat n.toNat] := by simp [toB]
theorem strOfNums_snoc (xs : List Int) (n : Int) : strOfNums (xs ++ [n]) = bs (toB xs ++ [UInt8.ofNat n.toNat]) := by rw [strOfNums_bs]; simp [toB]
theorem put_l0 (f : Nat) : ∀ (u k : Nat) (acc : List Int), u < 2 * 128 ^ f → f ≤ 9 → f < k → acc.length + f < 100 →
    headgateref01_Put.l0 k (u : Int) acc = some (bs (toB acc ++ sev f u)) := by
  induction f with
  | zero =>
    intro u k acc hu _ hk hl
    obtain ⟨k, rfl⟩ : ∃ m, k = m + 1 := ⟨k - 1, by omega⟩
    simp only [headgateref01_Put.l0]
    rw [if_neg (by omega), if_pos (by omega), strOfNums_snoc]
    have : ((u : Int) % 256).toNat = u := by omega
    rw [this]
    rfl
  | succ f ih =>
    intro u k acc hu hf hk hl
    have hs : 2 * 128 ^ (f + 1) = 128 * (2 * 128 ^ f) := by rw [Nat.pow_succ]; omega
    have hmax : 2 * 128 ^ (f + 1) ≤ 18446744073709551616 := by
      have : 128 ^ (f + 1) ≤ 128 ^ 9 := Nat.pow_le_pow_right (by decide) hf
      omega
    obtain ⟨k, rfl⟩ : ∃ m, k = m + 1 := ⟨k - 1, by omega⟩
    simp only [headgateref01_Put.l0]
    unfold sev
    by_cases h : u < 128
    · rw [if_neg (by omega), if_pos (by omega), strOfNums_snoc, if_pos h]
      have : ((u : Int) % 256).toNat = u := by omega
      rw [this]
    · rw [if_pos (by omega), if_pos (by omega), if_neg h]
      have e1 : IntKind.u64.wrap (Int.tdiv (u : Int) 128) = ((u / 128 : Nat) : Int) := by
        rw [Int.tdiv_eq_ediv_of_nonneg (by omega), u64w]; omega
      have e2 : ((IntKind.u64.wrap (Int.tmod (u : Int) 128 + 128)) % 256).toNat = u % 128 + 128 := by
        rw [Int.tmod_eq_emod_of_nonneg (by omega), u64w]; omega
      rw [e1, ih (u / 128) k _ (by omega) (by omega) (by omega) (by simp; omega), toB_snoc, e2]
      simp
theorem put_f (n : Int) (hn : I64 n) (k : Nat) (hk : 12 ≤ k) : headgateref01_Put.f k n = some (bs (enc n)) := by
  have hz := zz_lt.2 hn
  obtain ⟨k, rfl⟩ : ∃ m, k = m + 1 := ⟨k - 1, by omega⟩
  unfold I64 at hn
  unfold headgateref01_Put.f
  split
  · rename_i h
    have e : IntKind.u64.wrap (IntKind.u64.wrap (IntKind.u64.wrap (wrap64 (-(wrap64 (n + 1)))) * 2) + 1) = ((zz n : Nat) : Int) := by
      unfold wrap64 zz; rw [if_pos h]; simp only [u64w]; omega
    rw [e]
    simp only [headgateref01_Put.j0]
    exact put_l0 9 _ _ _ hz (by omega) (by omega) (by simp)
  · rename_i h
    have e : IntKind.u64.wrap (IntKind.u64.wrap n * 2) = ((zz n : Nat) : Int) := by
      unfold zz; rw [if_neg h]; simp only [u64w]; omega
    rw [e]
    simp only [headgateref01_Put.j0]
    exact put_l0 9 _ _ _ hz (by omega) (by omega) (by simp)
/-- What bytes' sevens come to, the first byte the lowest. -/
def m64 (n : Nat) : Nat := n % 18446744073709551616
theorem m64_lt (n : Nat) : m64 n < 18446744073709551616 := Nat.mod_lt _ (by decide)
theorem m64_of {n : Nat} (h : n < 18446744073709551616) : m64 n = n := Nat.mod_eq_of_lt h
def val : List UInt8 → Nat
  | [] => 0
  | c :: t => c.toNat % 128 + 128 * val t
theorem val_sev (f : Nat) : ∀ u, u < 2 * 128 ^ f → val (sev f u) = u := by
  induction f with
  | zero => intro u hu; simp [sev, val, toNat_ofNat_lt (show u < 256 by omega)]; omega
  | succ f ih =>
    intro u hu
    have hs : 2 * 128 ^ (f + 1) = 128 * (2 * 128 ^ f) := by rw [Nat.pow_succ]; omega
    unfold sev
    split
    · rename_i h; simp [val, toNat_ofNat_lt (show u < 256 by omega)]; omega
    · simp only [val]; rw [ih _ (by omega), toNat_ofNat_lt (by omega)]; omega
/-- All bytes of a number but its last one are 128 or more; its last one is less. -/
theorem sev_tops (f : Nat) : ∀ u, u < 2 * 128 ^ f → (∀ i, i + 1 < (sev f u).length → 128 ≤ ((sev f u).getD i 0).toNat) ∧ ((sev f u).getD ((sev f u).length - 1) 0).toNat < 128 := by
  induction f with
  | zero => intro u hu; simp [sev, toNat_ofNat_lt (show u < 256 by omega)]; omega
  | succ f ih =>
    intro u hu
    have hs : 2 * 128 ^ (f + 1) = 128 * (2 * 128 ^ f) := by rw [Nat.pow_succ]; omega
    unfold sev
    split
    · rename_i h; simp [toNat_ofNat_lt (show u < 256 by omega)]; omega
    · obtain ⟨h1, h2⟩ := ih (u / 128) (by omega)
      have hl := (sev_len f (u / 128)).1
      constructor
      · intro i hi
        cases i with
        | zero => simp only [List.getD_cons_zero]; rw [toNat_ofNat_lt (by omega)]; omega
        | succ i => simp only [List.getD_cons_succ]; exact h1 i (by simpa using hi)
      · obtain ⟨m, hm⟩ : ∃ m, (sev f (u / 128)).length = m + 1 := ⟨_, (Nat.sub_add_cancel hl).symm⟩
        simp only [List.length_cons, Nat.add_sub_cancel]
        rw [hm]
        simp only [List.getD_cons_succ]
        rw [hm] at h2
        exact h2
theorem bt_bs (l : List UInt8) (i : Nat) (h : i < l.length) : bt (bs l) (i : Int) = ((l.getD i 0).toNat : Int) := by
  unfold bt
  rw [dif_pos (by simpa using h)]
  simp only [Int.toNat_natCast]
  rw [List.getD_eq_getElem?_getD, List.getElem?_eq_getElem h]
  rfl
/-- Where the scan stops: at the first byte below 128, at the end, or behind ten. -/
theorem take_l0 (l : List UInt8) (hl : l.length ≤ 9223372036854775800) (k : Nat) : ∀ (d i : Nat), i ≤ l.length → i ≤ 10 → d = 10 - i → (∀ j : Nat, j < i → 128 ≤ (l.getD j 0).toNat) → d < k →
    ∃ i' k' : Nat, k' + d + 1 ≥ k ∧ k' < k ∧ headgateref01_Take.l0 k (bs l) (i : Int) = headgateref01_Take.j1 k' (bs l) (i' : Int) ∧ i' ≤ l.length ∧ i' ≤ 10 ∧ (∀ j : Nat, j < i' → 128 ≤ (l.getD j 0).toNat) ∧ (i' = l.length ∨ i' = 10 ∨ (i' < l.length ∧ i' < 10 ∧ (l.getD i' 0).toNat < 128)) := by
  induction k with
  | zero => intro d i _ _ _ _ hk; omega
  | succ k ih =>
    intro d i h1 h2 hd hall hk
    simp only [headgateref01_Take.l0]
    by_cases hlt : i < l.length
    · rw [if_pos (by simp; omega)]
      by_cases h10 : i < 10
      · rw [if_pos (by omega), if_pos (by omega), bt_bs l i hlt]
        by_cases hb : 128 ≤ (l.getD i 0).toNat
        · rw [if_pos (by omega)]
          have e : wrap64 ((i : Int) + 1) = ((i + 1 : Nat) : Int) := by unfold wrap64; omega
          rw [e]
          obtain ⟨i', k', ha, hb', hc, hr⟩ := ih (d - 1) (i + 1) (by omega) (by omega) (by omega) (fun j hj => by
            rcases Nat.lt_or_ge j i with h | h
            · exact hall j h
            · obtain rfl : j = i := by omega
              exact hb) (by omega)
          exact ⟨i', k', by omega, by omega, hc, hr⟩
        · rw [if_neg (by omega)]
          exact ⟨i, k, by omega, by omega, rfl, h1, h2, hall, .inr (.inr ⟨hlt, h10, by omega⟩)⟩
      · rw [if_neg (by omega)]
        exact ⟨i, k, by omega, by omega, rfl, h1, h2, hall, .inr (.inl (by omega))⟩
    · rw [if_neg (by simp; omega)]
      exact ⟨i, k, by omega, by omega, rfl, h1, h2, hall, .inl (by omega)⟩
theorem val_drop (t : List UInt8) (m : Nat) (h : m < t.length) : val (t.drop m) = (t.getD m 0).toNat % 128 + 128 * val (t.drop (m + 1)) := by
  rw [List.drop_eq_getElem_cons h, val, List.getD_eq_getElem?_getD, List.getElem?_eq_getElem h]
  rfl
theorem l1_round (k : Nat) (x0 : ByteArray) (x5 x6 x7 : Int) (h0 : 0 ≤ x7) (h1 : x7 < (x0.size : Int)) : headgateref01_Take.l1 (k + 1) x0 x5 x6 x7 = headgateref01_Take.l1 k x0 x5 (IntKind.u64.wrap ((IntKind.u64.wrap (x6 * 128)) + (Int.tmod (IntKind.u64.wrap (bt x0 x7)) 128))) (wrap64 (x7 - 1)) := by
  rw [headgateref01_Take.l1, if_pos h0, if_pos h0, if_pos h1]
theorem take_l1 (l : List UInt8) (x5 : Nat) (hx : x5 < l.length) (h10 : x5 < 10) : ∀ (m k : Nat), m ≤ x5 + 1 → m + 20 ≤ k →
    ∃ k', 12 ≤ k' ∧ headgateref01_Take.l1 k (bs l) (x5 : Int) ((m64 (val ((l.take (x5 + 1)).drop m)) : Nat) : Int) ((m : Int) - 1) = headgateref01_Take.l1 (k' + 1) (bs l) (x5 : Int) ((m64 (val (l.take (x5 + 1))) : Nat) : Int) (-1) := by
  intro m
  induction m with
  | zero =>
    intro k _ hk
    obtain ⟨k, rfl⟩ : ∃ q, k = q + 1 := ⟨k - 1, by omega⟩
    refine ⟨k, by omega, ?_⟩
    rw [List.drop_zero, show ((0 : Nat) : Int) - 1 = -1 by omega]
  | succ m ih =>
    intro k hm hk
    obtain ⟨k, rfl⟩ : ∃ q, k = q + 1 := ⟨k - 1, by omega⟩
    obtain ⟨k', h1, h2⟩ := ih k (by omega) (by omega)
    refine ⟨k', h1, ?_⟩
    rw [← h2]
    have hlen : (l.take (x5 + 1)).length = x5 + 1 := by simp; omega
    have hg : (l.take (x5 + 1)).getD m 0 = l.getD m 0 := by
      simp only [List.getD_eq_getElem?_getD]
      rw [List.getElem?_take_of_lt (by omega)]
    have hv := val_drop (l.take (x5 + 1)) m (by omega)
    rw [hg] at hv
    have hbyte := (l.getD m 0).toNat_lt
    have e0 : ((m + 1 : Nat) : Int) - 1 = (m : Int) := by omega
    rw [e0]
    rw [l1_round k (bs l) _ _ (m : Int) (by omega) (by simp; omega), bt_bs l m (by omega)]
    have e1 : wrap64 ((m : Int) - 1) = (m : Int) - 1 := by unfold wrap64; omega
    have e2 : IntKind.u64.wrap ((IntKind.u64.wrap (((m64 (val ((l.take (x5 + 1)).drop (m + 1))) : Nat) : Int) * 128)) + (Int.tmod (IntKind.u64.wrap ((l.getD m 0).toNat : Int)) 128)) = ((m64 (val ((l.take (x5 + 1)).drop m)) : Nat) : Int) := by
      rw [hv]
      simp only [u64w, m64]
      rw [Int.tmod_eq_emod_of_nonneg (by omega)]
      omega
    rw [e1, e2]
theorem take_l1' (l : List UInt8) (x5 : Nat) (hx : x5 < l.length) (h10 : x5 < 10) (k : Nat) (hk : 40 ≤ k) :
    ∃ k', 12 ≤ k' ∧ headgateref01_Take.l1 k (bs l) (x5 : Int) 0 (x5 : Int) = headgateref01_Take.l1 (k' + 1) (bs l) (x5 : Int) ((m64 (val (l.take (x5 + 1))) : Nat) : Int) (-1) := by
  obtain ⟨kk, hkk, h⟩ := take_l1 l x5 hx h10 (x5 + 1) k (by omega) (by omega)
  refine ⟨kk, hkk, ?_⟩
  have hz : val ((l.take (x5 + 1)).drop (x5 + 1)) = 0 := by
    rw [List.drop_of_length_le (by rw [List.length_take]; omega)]
    rfl
  have hm : ((m64 0 : Nat) : Int) = 0 := rfl
  have e0 : ((x5 + 1 : Nat) : Int) - 1 = (x5 : Int) := by omega
  rw [hz, hm, e0] at h
  exact h
theorem take_fin (l : List UInt8) (hl : l.length ≤ 9223372036854775800) (i : Nat) (hlt : i < l.length) (h10 : i < 10) (hall : ∀ j : Nat, j < i → 128 ≤ (l.getD j 0).toNat) (hlast : (l.getD i 0).toNat < 128) (kk : Nat) (hkk : 12 ≤ kk) (u : Nat) (hu : m64 (val (l.take (i + 1))) = u) :
    ((headgateref01_Put.f kk (uz u)).bind fun t107 => (if 0 ≤ (wrap64 ((i : Int) + 1)) then (if (wrap64 ((i : Int) + 1)) ≤ ((bs l).size : Int) then (if t107.toList = ((bs l).extract 0 ((wrap64 ((i : Int) + 1)) : Int).toNat).toList then (some (uz u, (bs l).extract ((wrap64 ((i : Int) + 1)) : Int).toNat (bs l).size, (0 : Int))) else (some (0, (⟨#[]⟩ : ByteArray), 2))) else (none)) else (none))) = some (takeR (dec l)) := by
  have hult : u < 18446744073709551616 := by rw [← hu]; exact m64_lt _
  have e1 : wrap64 ((i : Int) + 1) = ((i + 1 : Nat) : Int) := by unfold wrap64; omega
  have hn : I64 (uz u) := zz_lt.1 (by rw [zz_uz]; exact hult)
  have hb : (i : Int) + 1 ≤ ((bs l).size : Int) := by rw [size_bs]; omega
  rw [put_f _ hn kk hkk, Option.bind_some, e1, if_pos (by omega), if_pos (by omega), Int.toNat_natCast, extract_bs, extract_bs, toList_bs, toList_bs, size_bs, List.drop_zero, Nat.sub_zero]
  by_cases hc : enc (uz u) = l.take (i + 1)
  · rw [if_pos hc]
    have : dec l = some (uz u, l.drop (i + 1)) := (dec_iff _ _ _).2 ⟨by rw [hc, List.take_append_drop], hn⟩
    rw [this, List.take_of_length_le (by simp)]
    rfl
  · rw [if_neg hc]
    cases hd : dec l with
    | none => rfl
    | some p =>
      exfalso
      obtain ⟨m, r⟩ := p
      obtain ⟨rfl, hm⟩ := (dec_iff l m r).1 hd
      have htop := sev_tops 9 (zz m) (zz_lt.2 hm)
      have hlen := enc_len m
      have hget : ∀ j, j < (enc m).length → (enc m ++ r).getD j 0 = (enc m).getD j 0 := fun j hj => by
        simp only [List.getD_eq_getElem?_getD]
        rw [List.getElem?_append_left hj]
      have hi : i + 1 = (enc m).length := by
        rcases Nat.lt_trichotomy (i + 1) (enc m).length with h | h | h
        · have h1 := htop.1 i h
          rw [hget i (by omega)] at hlast
          unfold enc at hlast
          omega
        · exact h
        · have h1 := hall ((enc m).length - 1) (by omega)
          rw [hget _ (by omega)] at h1
          unfold enc at h1
          omega
      have htk : (enc m ++ r).take (i + 1) = enc m := by rw [hi, List.take_left]
      rw [htk] at hu hc
      have hv : val (enc m) = zz m := val_sev 9 _ (zz_lt.2 hm)
      have hzl := zz_lt.2 hm
      rw [hv, m64_of hzl] at hu
      apply hc
      rw [← hu, uz_zz]
theorem take_f (l : List UInt8) (hl : l.length ≤ 9223372036854775800) (k : Nat) (hk : 80 ≤ k) : headgateref01_Take.f k (bs l) = some (takeR (dec l)) := by
  unfold headgateref01_Take.f
  obtain ⟨i, k', hk1, hk2, he, hi1, hi2, hall, hend⟩ := take_l0 l hl k 10 0 (by omega) (by omega) rfl (fun j hj => by omega) (by omega)
  rw [show (0 : Int) = ((0 : Nat) : Int) from rfl, he]
  have bad : (i = l.length ∨ i = 10) → dec l = none := by
    intro hb
    cases hd : dec l with
    | none => rfl
    | some p =>
      exfalso
      obtain ⟨n, r⟩ := p
      obtain ⟨rfl, hn⟩ := (dec_iff l n r).1 hd
      have ht := (sev_tops 9 (zz n) (zz_lt.2 hn)).2
      have hlen := enc_len n
      have h1 : (enc n).length - 1 < i := by
        rcases hb with hb | hb
        · rw [List.length_append] at hb; omega
        · omega
      have h2 := hall _ h1
      have h3 : (enc n ++ r).getD ((enc n).length - 1) 0 = (enc n).getD ((enc n).length - 1) 0 := by
        simp only [List.getD_eq_getElem?_getD]
        rw [List.getElem?_append_left (by omega)]
      rw [h3] at h2
      unfold enc at h2
      omega
  obtain ⟨k', rfl⟩ : ∃ q, k' = q + 1 := ⟨k' - 1, by omega⟩
  rw [headgateref01_Take.j1]
  obtain ⟨k', rfl⟩ : ∃ q, k' = q + 1 := ⟨k' - 1, by omega⟩
  by_cases hA : i = l.length
  · rw [if_pos (by rw [size_bs]; omega), headgateref01_Take.j2, if_pos rfl, bad (.inl hA)]
    rfl
  · rw [if_neg (by rw [size_bs]; omega), headgateref01_Take.j2]
    by_cases hB : i = 10
    · rw [if_pos (beq_iff_eq.mpr (by omega)), bad (.inr hB)]
      rfl
    · rw [if_neg (by rw [beq_iff_eq]; omega)]
      obtain ⟨hlt, h10, hlast⟩ : i < l.length ∧ i < 10 ∧ (l.getD i 0).toNat < 128 := by
        rcases hend with h | h | h
        · exact absurd h hA
        · exact absurd h hB
        · exact h
      obtain ⟨kk, hkk, hl1⟩ := take_l1' l i hlt h10 k' (by omega)
      rw [hl1]
      have hult := m64_lt (val (l.take (i + 1)))
      generalize hu : m64 (val (l.take (i + 1))) = u at hult
      have hfin := take_fin l hl i hlt h10 hall hlast kk hkk u hu
      rw [headgateref01_Take.l1, if_neg (by omega)]
      have hq : Int.tdiv (u : Int) 2 = ((u / 2 : Nat) : Int) := by rw [Int.tdiv_eq_ediv_of_nonneg (by omega)]; omega
      have hr : Int.tmod (u : Int) 2 = ((u % 2 : Nat) : Int) := by rw [Int.tmod_eq_emod_of_nonneg (by omega)]; omega
      rw [hq, hr]
      by_cases hodd : u % 2 = 1
      · rw [if_pos (by omega)]
        have e : wrap64 (wrap64 (-(wrap64 (IntKind.u64.wrap ((u / 2 : Nat) : Int)))) - 1) = uz u := by
          have h1 : IntKind.u64.wrap ((u / 2 : Nat) : Int) = ((u / 2 : Nat) : Int) := by rw [u64w]; omega
          rw [h1, w64 (x := ((u / 2 : Nat) : Int)) (by omega) (by omega), w64 (x := -((u / 2 : Nat) : Int)) (by omega) (by omega), w64 (by omega) (by omega)]
          unfold uz
          rw [if_pos hodd]
        rw [e]
        exact hfin
      · rw [if_neg (by omega)]
        have e : wrap64 (IntKind.u64.wrap ((u / 2 : Nat) : Int)) = uz u := by
          have h1 : IntKind.u64.wrap ((u / 2 : Nat) : Int) = ((u / 2 : Nat) : Int) := by rw [u64w]; omega
          rw [h1, w64 (x := ((u / 2 : Nat) : Int)) (by omega) (by omega)]
          unfold uz
          rw [if_neg hodd]
        rw [e]
        exact hfin
end Go.Proofs.Ytikbpjdgihheiaa.Vref
set_option linter.unusedVariables false
set_option linter.unusedSimpArgs false
namespace Go.Proofs.Ytikbpjdgihheiaa.Vp
open Go.RowKit Go.Proofs.Ytikbpjdgihheiaa.Vm Go.Proofs.Ytikbpjdgihheiaa.Vref Go.Proofs.Ytikbpjdgihheiaa.P Go.Proofs.YtikbpjdgihheiaaW.PrintWords
theorem i64_of {n : Int} (h : (Lit.int .i64 n).wf = true) : I64 n := by
  simp only [Lit.wf, IntKind.min, IntKind.max, IntKind.signed, IntKind.bits, Bool.and_eq_true, decide_eq_true_eq, if_true] at h
  unfold I64
  omega
theorem put_eq {n : Int} (h : I64 n) : varint_Put.f n = some (bs (enc n)) := if_pos h
theorem take_eq (l : List UInt8) (h : l.length ≤ 9223372036854775807) : varint_Take.f (bs l) = some (takeR (dec l)) := by
  unfold varint_Take.f
  rw [size_bs, if_pos h, data_bs]
theorem len_i64 {l : List UInt8} (h : l.length ≤ 9223372036854775807) : I64 (l.length : Int) := by unfold I64; omega
theorem takeR_1 (n : Int) (r : List UInt8) : (takeR (some (n, r))).1 = n := rfl
theorem takeR_2 (n : Int) (r : List UInt8) : (takeR (some (n, r))).2.1 = bs r := rfl
theorem takeR_3 (n : Int) (r : List UInt8) : (takeR (some (n, r))).2.2 = 0 := rfl
theorem takeR_n3 : (takeR none).2.2 = 2 := rfl
theorem takeR_n2 : (takeR none).2.1 = bs [] := rfl
/-- A text of so many bytes at most, with which bytes begin. -/
def ttext (l : List UInt8) (m : Int) : Option (List UInt8 × List UInt8) :=
  (dec l).bind fun p => if p.1 < 0 ∨ p.1 > m ∨ p.1 > (p.2.length : Int) then none else some (p.2.take p.1.toNat, p.2.drop p.1.toNat)
def textR : Option (List UInt8 × List UInt8) → ByteArray × ByteArray × Int
  | some (a, b) => (bs a, bs b, 0)
  | none => (bs [], bs [], 2)
theorem text_core (l : List UInt8) (m : Int) : (if (takeR (dec l)).2.2 = 0 then (if (takeR (dec l)).1 < 0 then (some ((⟨#[]⟩ : ByteArray), (⟨#[]⟩ : ByteArray), (2 : Int))) else (if (takeR (dec l)).1 > m then (some ((⟨#[]⟩ : ByteArray), (⟨#[]⟩ : ByteArray), 2)) else (if (takeR (dec l)).1 > ((takeR (dec l)).2.1.size : Int) then (some ((⟨#[]⟩ : ByteArray), (⟨#[]⟩ : ByteArray), 2)) else (if 0 ≤ (takeR (dec l)).1 then (if (takeR (dec l)).1 ≤ ((takeR (dec l)).2.1.size : Int) then (some ((takeR (dec l)).2.1.extract 0 ((takeR (dec l)).1 : Int).toNat, (takeR (dec l)).2.1.extract ((takeR (dec l)).1 : Int).toNat (takeR (dec l)).2.1.size, 0)) else (none)) else (none))))) else (some ((⟨#[]⟩ : ByteArray), (⟨#[]⟩ : ByteArray), 2))) = some (textR (ttext l m)) := by
  unfold ttext
  cases dec l with
  | none => rfl
  | some p =>
    obtain ⟨n, r⟩ := p
    rw [takeR_1, takeR_2, takeR_3, Option.bind_some, size_bs, if_pos rfl]
    show _ = some (textR (if n < 0 ∨ n > m ∨ n > (r.length : Int) then none else some (r.take n.toNat, r.drop n.toNat)))
    by_cases h1 : n < 0
    · rw [if_pos h1, if_pos (.inl h1)]; rfl
    · rw [if_neg h1]
      by_cases h2 : n > m
      · rw [if_pos h2, if_pos (.inr (.inl h2))]; rfl
      · rw [if_neg h2]
        by_cases h3 : n > (r.length : Int)
        · rw [if_pos h3, if_pos (.inr (.inr h3))]; rfl
        · rw [if_neg h3, if_pos (by omega), if_pos (by omega), if_neg (by omega), extract_bs, extract_bs, List.drop_zero, Nat.sub_zero, List.take_of_length_le (l := r.drop n.toNat) (by simp)]
          rfl
theorem takeText_eq (l : List UInt8) (h : l.length ≤ 9223372036854775800) (m : Int) : varint_TakeText.f (bs l) m = some (textR (ttext l m)) := by
  unfold varint_TakeText.f
  rw [take_eq l (by omega), Option.bind_some]
  exact text_core l m
theorem rtakeText_eq (l : List UInt8) (h : l.length ≤ 9223372036854775800) (m : Int) (k : Nat) (hk : 80 ≤ k) : headgateref01_TakeText.f k (bs l) m = some (textR (ttext l m)) := by
  unfold headgateref01_TakeText.f
  rw [take_f l h k hk, Option.bind_some]
  exact text_core l m
def ptext (l : List UInt8) : List UInt8 := enc (l.length : Int) ++ l
theorem ptext_len (l : List UInt8) : (ptext l).length ≤ l.length + 10 := by have := (enc_len (l.length : Int)).2; unfold ptext; rw [List.length_append]; omega
theorem putText_eq (l : List UInt8) (h : l.length ≤ 9223372036854775000) : varint_PutText.f (bs l) = some (bs (ptext l)) := by
  have := (enc_len (l.length : Int)).2
  unfold varint_PutText.f ptext
  rw [size_bs, put_eq (len_i64 (by omega)), Option.bind_some, if_pos (by rw [size_bs]; omega), append_bs]
theorem rtext_eq (l : List UInt8) (h : l.length ≤ 9223372036854775000) (k : Nat) (hk : 12 ≤ k) : headgateref01_Text.f k (bs l) = some (bs (ptext l)) := by
  have := (enc_len (l.length : Int)).2
  unfold headgateref01_Text.f ptext
  rw [size_bs, put_f _ (len_i64 (by omega)) k hk, Option.bind_some, if_pos (by rw [size_bs]; omega), append_bs]
theorem ttext_ptext (l r : List UInt8) (h : l.length ≤ 9223372036854775000) (m : Int) (hm : (l.length : Int) ≤ m) : ttext (ptext l ++ r) m = some (l, r) := by
  unfold ttext ptext
  rw [List.append_assoc, dec_enc (len_i64 (by omega)), Option.bind_some]
  simp only
  rw [if_neg (by rw [List.length_append]; omega), Int.toNat_natCast, List.take_left, List.drop_left]
theorem ttext_short (l r : List UInt8) (h : l.length ≤ 9223372036854775000) (m : Int) (hm : m < (l.length : Int)) : ttext (ptext l ++ r) m = none := by
  unfold ttext ptext
  rw [List.append_assoc, dec_enc (len_i64 (by omega)), Option.bind_some]
  simp only
  rw [if_pos (by omega)]
/-- What is a text's with which bytes begin: they are its bytes, and what is behind it. -/
theorem ttext_some {l a b : List UInt8} {m : Int} (h : ttext l m = some (a, b)) : l = ptext a ++ b ∧ (a.length : Int) ≤ m := by
  unfold ttext at h
  cases hd : dec l with
  | none => rw [hd] at h; cases h
  | some p =>
    obtain ⟨n, r⟩ := p
    rw [hd, Option.bind_some] at h
    simp only at h
    split at h
    · cases h
    · rename_i hc
      simp only [Option.some.injEq, Prod.mk.injEq] at h
      obtain ⟨rfl, rfl⟩ := h
      obtain ⟨rfl, hn⟩ := (dec_iff _ _ _).1 hd
      have hl : ((r.take n.toNat).length : Int) = n := by rw [List.length_take]; omega
      unfold ptext
      rw [hl, List.append_assoc, List.take_append_drop]
      exact ⟨rfl, by omega⟩
/-- So many numbers, with which bytes begin. -/
def decN : Nat → List UInt8 → Option (List Int × List UInt8)
  | 0, l => some ([], l)
  | n + 1, l => (dec l).bind fun p => (decN n p.2).map fun q => (p.1 :: q.1, q.2)
theorem decN_iff (n : Nat) : ∀ (l : List UInt8) (xs : List Int) (r : List UInt8), decN n l = some (xs, r) ↔ l = xs.flatMap enc ++ r ∧ xs.length = n ∧ ∀ x ∈ xs, I64 x := by
  induction n with
  | zero =>
    intro l xs r
    simp only [decN, Option.some.injEq, Prod.mk.injEq]
    constructor
    · rintro ⟨rfl, rfl⟩; simp
    · rintro ⟨h1, h2, -⟩
      obtain rfl := List.eq_nil_of_length_eq_zero h2
      simp at h1
      exact ⟨rfl, h1⟩
  | succ n ih =>
    intro l xs r
    simp only [decN, Option.bind_eq_some_iff, Option.map_eq_some_iff, Prod.exists, Prod.mk.injEq]
    constructor
    · rintro ⟨x, l', hd, ys, r', hn, rfl, rfl⟩
      obtain ⟨rfl, hx⟩ := (dec_iff _ _ _).1 hd
      obtain ⟨rfl, hl, hall⟩ := (ih _ _ _).1 hn
      refine ⟨by simp, by simp [hl], fun y hy => ?_⟩
      rcases List.mem_cons.1 hy with rfl | hy
      · exact hx
      · exact hall y hy
    · rintro ⟨rfl, h2, h3⟩
      cases xs with
      | nil => simp at h2
      | cons x ys =>
        have hx := h3 x (List.mem_cons_self ..)
        refine ⟨x, ys.flatMap enc ++ r, ?_, ys, r, (ih _ _ _).2 ⟨rfl, by simpa using h2, fun y hy => h3 y (List.mem_cons_of_mem _ hy)⟩, rfl, rfl⟩
        rw [List.flatMap_cons, List.append_assoc]
        exact dec_enc hx _
def allR : Option (List Int × List UInt8) → List Int × ByteArray × Int
  | some (a, b) => (a, bs b, 0)
  | none => ([], bs [], 2)
/-- What TakeAll tells. -/
def takeAllR (l : List UInt8) (n : Int) : List Int × ByteArray × Int := if n < 0 ∨ n > 64 then ([], bs [], 1) else allR (decN n.toNat l)
theorem takeAll_l0 (d : Nat) : ∀ (l : List UInt8) (acc : List Int) (n i : Int) (k : Nat), l.length ≤ 9223372036854775800 → 0 ≤ i → i ≤ n → n ≤ 64 → n - i = d → d < k → acc.length ≤ 64 - d →
    varint_TakeAll.l0 k (bs l) acc n i = some (allR ((decN d l).map fun q => (acc ++ q.1, q.2))) := by
  induction d with
  | zero =>
    intro l acc n i k hl h0 h1 h64 hd hk ha
    obtain ⟨k, rfl⟩ : ∃ m, k = m + 1 := ⟨k - 1, by omega⟩
    rw [varint_TakeAll.l0, if_neg (by omega)]
    simp [decN, allR]
  | succ d ih =>
    intro l acc n i k hl h0 h1 h64 hd hk ha
    obtain ⟨k, rfl⟩ : ∃ m, k = m + 1 := ⟨k - 1, by omega⟩
    rw [varint_TakeAll.l0, if_pos (by omega), take_eq l (by omega), Option.bind_some]
    cases hdc : dec l with
    | none =>
      rw [takeR_n3, if_neg (by decide)]
      simp only [decN, hdc]
      rfl
    | some p =>
      obtain ⟨x, r⟩ := p
      have hr := (dec_iff _ _ _).1 hdc
      have hrl : r.length ≤ l.length := by rw [hr.1, List.length_append]; omega
      rw [takeR_1, takeR_2, takeR_3, if_pos rfl, if_pos (by omega), w64 (by omega) (by omega), ih r (acc ++ [x]) n (i + 1) k (by omega) (by omega) (by omega) h64 (by omega) (by omega) (by rw [List.length_append, List.length_singleton]; omega)]
      simp only [decN, hdc, Option.bind_some, Option.map_map]
      congr 2
      cases decN d r <;> simp
theorem rtakeAll_l0 (d : Nat) : ∀ (l : List UInt8) (acc : List Int) (n i : Int) (k : Nat), l.length ≤ 9223372036854775800 → 0 ≤ i → i ≤ n → n ≤ 64 → n - i = d → d + 80 < k → acc.length ≤ 64 - d →
    headgateref01_TakeAll.l0 k (bs l) n acc i = some (allR ((decN d l).map fun q => (acc ++ q.1, q.2))) := by
  induction d with
  | zero =>
    intro l acc n i k hl h0 h1 h64 hd hk ha
    obtain ⟨k, rfl⟩ : ∃ m, k = m + 1 := ⟨k - 1, by omega⟩
    rw [headgateref01_TakeAll.l0, if_neg (by omega)]
    simp [decN, allR]
  | succ d ih =>
    intro l acc n i k hl h0 h1 h64 hd hk ha
    obtain ⟨k, rfl⟩ : ∃ m, k = m + 1 := ⟨k - 1, by omega⟩
    rw [headgateref01_TakeAll.l0, if_pos (by omega), take_f l (by omega) k (by omega), Option.bind_some]
    cases hdc : dec l with
    | none =>
      rw [takeR_n3, if_neg (by decide)]
      simp only [decN, hdc]
      rfl
    | some p =>
      obtain ⟨x, r⟩ := p
      have hr := (dec_iff _ _ _).1 hdc
      have hrl : r.length ≤ l.length := by rw [hr.1, List.length_append]; omega
      rw [takeR_1, takeR_2, takeR_3, if_pos rfl, if_pos (by omega), w64 (by omega) (by omega), ih r (acc ++ [x]) n (i + 1) k (by omega) (by omega) (by omega) h64 (by omega) (by omega) (by rw [List.length_append, List.length_singleton]; omega)]
      simp only [decN, hdc, Option.bind_some, Option.map_map]
      congr 2
      cases decN d r <;> simp
theorem takeAll_eq (l : List UInt8) (hl : l.length ≤ 9223372036854775800) (n : Int) (k : Nat) (hk : 200 ≤ k) : varint_TakeAll.f k (bs l) n = some (takeAllR l n) := by
  obtain ⟨k, rfl⟩ : ∃ m, k = m + 1 := ⟨k - 1, by omega⟩
  unfold varint_TakeAll.f takeAllR
  rw [varint_TakeAll.j0, if_pos rfl, varint_TakeAll.j0]
  by_cases h0 : n < 0
  · rw [if_pos h0, if_pos (.inl h0)]; rfl
  · rw [if_neg h0]
    by_cases h1 : n > 64
    · rw [if_pos (decide_eq_true h1), if_pos (.inr h1)]; rfl
    · rw [if_neg (by rw [decide_eq_true_eq]; exact h1), if_neg (by omega), takeAll_l0 n.toNat l [] n 0 k hl (by omega) (by omega) (by omega) (by omega) (by omega) (by simp)]
      congr 2
      cases decN n.toNat l <;> simp
theorem rtakeAll_eq (l : List UInt8) (hl : l.length ≤ 9223372036854775800) (n : Int) (k : Nat) (hk : 200 ≤ k) : headgateref01_TakeAll.f k (bs l) n = some (takeAllR l n) := by
  obtain ⟨k, rfl⟩ : ∃ m, k = m + 1 := ⟨k - 1, by omega⟩
  unfold headgateref01_TakeAll.f takeAllR
  rw [headgateref01_TakeAll.j0, if_pos rfl, headgateref01_TakeAll.j0]
  by_cases h0 : n < 0
  · rw [if_pos h0, if_pos (.inl h0)]; rfl
  · rw [if_neg h0]
    by_cases h1 : n > 64
    · rw [if_pos (decide_eq_true h1), if_pos (.inr h1)]; rfl
    · rw [if_neg (by rw [decide_eq_true_eq]; exact h1), if_neg (by omega), rtakeAll_l0 n.toNat l [] n 0 k hl (by omega) (by omega) (by omega) (by omega) (by omega) (by simp)]
      congr 2
      cases decN n.toNat l <;> simp
theorem putAll_eq (l : List Int) (hl : l.length ≤ 1099511627776) (h : ∀ x ∈ l, I64 x) : varint_PutAll.f l = some (bs (l.flatMap enc)) := if_pos ⟨hl, h⟩
theorem rall_l0 (l : List Int) (hl : l.length ≤ 1099511627776) (h : ∀ x ∈ l, I64 x) (d : Nat) : ∀ (i k : Nat), i ≤ l.length → l.length - i = d → d + 20 < k →
    headgateref01_All.l0 k l (bs ((l.take i).flatMap enc)) (i : Int) = some (bs (l.flatMap enc)) := by
  induction d with
  | zero =>
    intro i k hi hd hk
    obtain ⟨k, rfl⟩ : ∃ m, k = m + 1 := ⟨k - 1, by omega⟩
    obtain rfl : i = l.length := by omega
    rw [headgateref01_All.l0, if_neg (by omega), List.take_length]
  | succ d ih =>
    intro i k hi hd hk
    obtain ⟨k, rfl⟩ : ∃ m, k = m + 1 := ⟨k - 1, by omega⟩
    have hlt : i < l.length := by omega
    have hx : I64 (rd l (i : Int)) := h _ (by simp [rd, List.getD_eq_getElem?_getD, List.getElem?_eq_getElem hlt])
    have hlen := varint_PutAll.len (l.take i)
    have hlt2 := List.length_take_le i l
    have he := (enc_len (rd l (i : Int))).2
    rw [headgateref01_All.l0, if_pos (by omega), if_pos (by omega), put_f _ hx k (by omega), Option.bind_some, if_pos (by rw [size_bs, size_bs]; omega), append_bs, ← varint_PutAll.snoc l i hlt, w64 (by omega) (by omega)]
    exact ih (i + 1) k (by omega) (by omega) (by omega)
theorem rall_eq (l : List Int) (hl : l.length ≤ 1099511627776) (h : ∀ x ∈ l, I64 x) (k : Nat) (hk : l.length + 20 < k) : headgateref01_All.f k l = some (bs (l.flatMap enc)) := by
  unfold headgateref01_All.f
  exact rall_l0 l hl h l.length 0 k (by omega) (by omega) hk
theorem rsame_l0 (a b : List Int) (hab : a.length = b.length) (ha : a.length ≤ 9223372036854775800) (d : Nat) : ∀ (i k : Nat), i ≤ a.length → a.length - i = d → d < k →
    headgateref01_Same.l0 k a b (i : Int) = some (decide (a.drop i = b.drop i)) := by
  induction d with
  | zero =>
    intro i k hi hd hk
    obtain ⟨k, rfl⟩ : ∃ m, k = m + 1 := ⟨k - 1, by omega⟩
    rw [headgateref01_Same.l0, if_neg (by omega), List.drop_of_length_le (by omega), List.drop_of_length_le (by omega)]
    rfl
  | succ d ih =>
    intro i k hi hd hk
    obtain ⟨k, rfl⟩ : ∃ m, k = m + 1 := ⟨k - 1, by omega⟩
    have h1 : i < a.length := by omega
    have h2 : i < b.length := by omega
    have ea : rd a (i : Int) = a[i] := by simp [rd, List.getD_eq_getElem?_getD, List.getElem?_eq_getElem h1]
    have eb : rd b (i : Int) = b[i] := by simp [rd, List.getD_eq_getElem?_getD, List.getElem?_eq_getElem h2]
    rw [headgateref01_Same.l0, if_pos (by omega), if_pos (by omega), if_pos (by omega), ea, eb]
    have da := List.drop_eq_getElem_cons h1
    have db := List.drop_eq_getElem_cons h2
    by_cases hx : a[i] = b[i]
    · rw [if_pos hx, w64 (by omega) (by omega)]
      have := ih (i + 1) k (by omega) (by omega) (by omega)
      rw [show ((i : Int) + 1) = ((i + 1 : Nat) : Int) by omega, this, da, db, hx]
      refine congrArg some (decide_eq_decide.mpr ⟨fun h => by rw [h], fun h => (List.cons.inj h).2⟩)
    · rw [if_neg hx, da, db]
      exact congrArg some (decide_eq_false fun h => hx (List.cons.inj h).1).symm
theorem rsame_eq (a b : List Int) (ha : a.length ≤ 9223372036854775800) (k : Nat) (hk : a.length < k) : headgateref01_Same.f k a b = some (decide (a = b)) := by
  unfold headgateref01_Same.f
  by_cases h : (a.length : Int) = (b.length : Int)
  · rw [if_pos h]
    exact rsame_l0 a b (by omega) ha a.length 0 k (by omega) (by omega) hk
  · rw [if_neg h]
    have : a ≠ b := fun e => h (by rw [e])
    simp [this]
end Go.Proofs.Ytikbpjdgihheiaa.Vp
set_option linter.unusedVariables false
set_option linter.unusedSimpArgs false
namespace Go.Proofs.Ytikbpjdgihheiaa.Bt
open Go.RowKit Go.Proofs.Ytikbpjdgihheiaa.Vm Go.Proofs.Ytikbpjdgihheiaa.Vref Go.Proofs.Ytikbpjdgihheiaa.Vp Go.Proofs.Ytikbpjdgihheiaa.P Go.Proofs.YtikbpjdgihheiaaW.PrintWords Go.Proofs.YtikbpjdgihheiaaW.PrintLast
def mayR (x : S57) : Bool := decide (0 ≤ x.f0 ∧ x.f0 ≤ 1048576 ∧ 0 ≤ x.f1 ∧ x.f1 ≤ 1099511627776 ∧ (x.f2.size : Int) ≤ 512)
theorem mayR_iff {x : S57} : mayR x = true ↔ (0 ≤ x.f0 ∧ x.f0 ≤ 1048576 ∧ 0 ≤ x.f1 ∧ x.f1 ≤ 1099511627776 ∧ (x.f2.size : Int) ≤ 512) := by unfold mayR; exact decide_eq_true_iff
theorem may_eq (x : S57) : batch_may.f x.f0 x.f1 x.f2 = some (mayR x) := by
  unfold batch_may.f batch_within.f
  rw [Option.bind_some]
  have h2 : ([x.f0, x.f1].any batch_within.p) = decide ((x.f0 < 0 ∨ x.f0 > 1099511627776) ∨ (x.f1 < 0 ∨ x.f1 > 1099511627776)) := by
    rw [Bool.decide_or]
    show (batch_within.p x.f0 || (batch_within.p x.f1 || false)) = _
    rw [Bool.or_false]
    rfl
  rw [h2]
  by_cases c : (x.f0 < 0 ∨ x.f0 > 1099511627776) ∨ (x.f1 < 0 ∨ x.f1 > 1099511627776)
  · rw [decide_eq_true c, if_neg (by decide)]
    refine congrArg some (Bool.eq_false_iff.2 fun h => ?_).symm
    rw [mayR_iff] at h; omega
  · rw [decide_eq_false c, if_pos (show (!false) = true from rfl)]
    by_cases c2 : x.f0 ≤ 1048576
    · rw [if_pos c2]
      refine congrArg some (decide_eq_decide.mpr ⟨fun h => ⟨by omega, by omega, by omega, by omega, h⟩, fun h => h.2.2.2.2⟩)
    · rw [if_neg c2]
      refine congrArg some (Bool.eq_false_iff.2 fun h => ?_).symm
      rw [mayR_iff] at h; omega
theorem rmay_eq (x : S57) : headgateref06_MayRecord.f x.f0 x.f1 x.f2 = some (mayR x) := by
  unfold headgateref06_MayRecord.f headgateref06_In.f
  have no : ¬ (0 ≤ x.f0 ∧ x.f0 ≤ 1048576 ∧ 0 ≤ x.f1 ∧ x.f1 ≤ 1099511627776 ∧ (x.f2.size : Int) ≤ 512) → some false = some (mayR x) := fun h => by
    refine congrArg some (Bool.eq_false_iff.2 fun h' => h (mayR_iff.1 h')).symm
  by_cases c0 : x.f0 ≥ 0
  · rw [if_pos c0]
    by_cases c1 : x.f0 ≤ 1048576
    · rw [if_pos c1]
      by_cases c2 : x.f1 ≥ 0
      · rw [if_pos c2, Option.bind_some]
        by_cases c3 : x.f1 ≤ 1099511627776
        · rw [decide_eq_true c3, if_pos rfl]
          refine congrArg some (decide_eq_decide.mpr ⟨fun h => ⟨by omega, by omega, by omega, by omega, h⟩, fun h => h.2.2.2.2⟩)
        · rw [decide_eq_false c3, if_neg (by decide)]; exact no (by omega)
      · rw [if_neg c2, Option.bind_some, if_neg (by decide)]; exact no (by omega)
    · rw [if_neg c1]; exact no (by omega)
  · rw [if_neg c0]; exact no (by omega)
theorem rd_at (s : List S57) (j : Nat) (h : j < s.length) : rd_T57 s (j : Int) = s[j] := by
  unfold rd_T57
  rw [Int.toNat_natCast, List.getD_eq_getElem?_getD, List.getElem?_eq_getElem h]
  rfl
/-- What a kind asks of a batch that is good else. -/
def mayK (k p e s : Int) (n : Nat) : Bool :=
  decide ((k = 1 ∧ 0 < n ∧ ((p = 0 ∧ e = 0 ∧ s = 0) ∨ (p > 0 ∧ e > 0))) ∨ (k = 2 ∧ 0 < n ∧ p > 0 ∧ e > 0) ∨ ((k = 3 ∨ k = 4) ∧ n = 0 ∧ p > 0 ∧ e > 0 ∧ s = 0))
def mayH (p e s : Int) : Bool := decide (0 ≤ p ∧ p ≤ 8 ∧ 0 ≤ e ∧ e ≤ 1099511627776 ∧ 0 ≤ s ∧ s ≤ 1099511627776)
def mayB (k p e s : Int) (l : List S57) : Bool := mayH p e s && decide (l.length ≤ 64) && l.all mayR && mayK k p e s l.length
theorem j4_eq (k : Nat) (a b : Bool) (kd p e s : Int) (l : List S57) (c : Bool) (hk : 0 < k) : batch_Check.j4 k a b c kd p e s l = some (if (c && a && decide (l.length = 0) && b && decide (s = 0)) = true then 0 else 1) := by
  obtain ⟨k, rfl⟩ : ∃ m, k = m + 1 := ⟨k - 1, by omega⟩
  rw [batch_Check.j4]
  cases c <;> cases a <;> cases b <;> by_cases h1 : l.length = 0 <;> by_cases h2 : s = 0 <;> simp [h1, h2]
theorem j3_eq (k : Nat) (a n y : Bool) (kd p e s : Int) (l : List S57) (hk : 1 < k) : batch_Check.j3 k a n y kd p e s l = some (if (a && ((decide (kd = 1) && decide (0 < l.length) && (n || y)) || (decide (kd = 2) && decide (0 < l.length) && y) || ((decide (kd = 3) || decide (kd = 4)) && decide (l.length = 0) && y && decide (s = 0)))) = true then 0 else 1) := by
  obtain ⟨k, rfl⟩ : ∃ m, k = m + 1 := ⟨k - 1, by omega⟩
  rw [batch_Check.j3]
  have hl : ((l.length : Int) > 0) = (0 < l.length) := by apply propext; omega
  by_cases k1 : kd = 1
  · subst k1; simp only [hl, if_true]
    cases a <;> cases n <;> cases y <;> by_cases h1 : 0 < l.length <;> simp [h1]
  · by_cases k2 : kd = 2
    · subst k2; simp only [hl]
      cases a <;> cases n <;> cases y <;> by_cases h1 : 0 < l.length <;> simp [h1]
    · rw [if_neg k1, if_neg k2]
      by_cases k3 : kd = 3
      · subst k3; rw [if_pos rfl, j4_eq _ _ _ _ _ _ _ _ _ (by omega)]
        cases a <;> cases y <;> by_cases h1 : l.length = 0 <;> by_cases h2 : s = 0 <;> simp [h1, h2]
      · rw [if_neg k3, j4_eq _ _ _ _ _ _ _ _ _ (by omega)]
        by_cases k4 : kd = 4
        · subst k4
          cases a <;> cases y <;> by_cases h1 : l.length = 0 <;> by_cases h2 : s = 0 <;> simp [h1, h2]
        · have : (kd == 4) = false := by simpa using k4
          rw [this]; simp [k1, k2, k3, k4]
theorem mayK_eq (k p e s : Int) (n : Nat) : mayK k p e s n = ((decide (k = 1) && decide (0 < n) && (decide (p = 0 ∧ e = 0 ∧ s = 0) || decide (p > 0 ∧ e > 0))) || (decide (k = 2) && decide (0 < n) && decide (p > 0 ∧ e > 0)) || ((decide (k = 3) || decide (k = 4)) && decide (n = 0) && decide (p > 0 ∧ e > 0) && decide (s = 0))) := by
  unfold mayK
  simp only [Bool.decide_and, Bool.decide_or, Bool.and_assoc, Bool.or_assoc]
theorem j2_eq (k : Nat) (a n : Bool) (kd p e s : Int) (l : List S57) (hk : 2 < k) : batch_Check.j2 k a n kd p e s l = batch_Check.j3 (k - 1) a n (decide (p > 0 ∧ e > 0)) kd p e s l := by
  obtain ⟨k, rfl⟩ : ∃ m, k = m + 1 := ⟨k - 1, by omega⟩
  rw [batch_Check.j2]
  by_cases h1 : p > 0
  · rw [if_pos h1]; simp [h1]
  · rw [if_neg h1]; simp [h1]
theorem check_l0 (kd p e s : Int) (l : List S57) (hl : l.length ≤ 9223372036854775807) (d : Nat) : ∀ (j k : Nat) (a : Bool), l.length - j = d → j ≤ l.length → d + 5 < k →
    batch_Check.l0 k a l (l.length : Int) (j : Int) kd p e s l = some (if (a && (l.drop j).all mayR && mayK kd p e s l.length) = true then 0 else 1) := by
  induction d with
  | zero =>
    intro j k a hd hj hk
    obtain ⟨k, rfl⟩ : ∃ m, k = m + 1 := ⟨k - 1, by omega⟩
    have hf : (if p = 0 then (if e = 0 then (batch_Check.j2 k a (s == 0) kd p e s l) else (batch_Check.j2 k a false kd p e s l)) else (batch_Check.j2 k a false kd p e s l)) = batch_Check.j2 k a (decide (p = 0 ∧ e = 0 ∧ s = 0)) kd p e s l := by
      by_cases h1 : p = 0
      · rw [if_pos h1]
        by_cases h2 : e = 0
        · rw [if_pos h2]; congr 1; by_cases h3 : s = 0 <;> simp [h1, h2, h3]
        · rw [if_neg h2]; congr 1; simp [h2]
      · rw [if_neg h1]; congr 1; simp [h1]
    rw [batch_Check.l0, if_neg (by omega), hf, j2_eq _ _ _ _ _ _ _ _ (by omega), j3_eq _ _ _ _ _ _ _ _ _ (by omega), ← mayK_eq, List.drop_of_length_le (by omega)]
    simp
  | succ d ih =>
    intro j k a hd hj hk
    obtain ⟨k, rfl⟩ : ∃ m, k = m + 1 := ⟨k - 1, by omega⟩
    have hjl : j < l.length := by omega
    have e1 : wrap64 ((j : Int) + 1) = ((j + 1 : Nat) : Int) := by rw [w64 (by omega) (by omega)]; omega
    rw [batch_Check.l0, if_pos (by omega), if_pos (by omega), if_pos (by omega), rd_at l j hjl, may_eq, Option.bind_some, e1, List.drop_eq_getElem_cons hjl]
    cases a with
    | true =>
      rw [if_pos rfl, ih (j + 1) k _ (by omega) (by omega) (by omega), List.all_cons, Bool.true_and]
    | false =>
      rw [if_neg (by decide), ih (j + 1) k _ (by omega) (by omega) (by omega), Bool.false_and, Bool.false_and, Bool.false_and, Bool.false_and]
theorem check_eq (kd p e s : Int) (l : List S57) (hl : l.length ≤ 9223372036854775807) (k : Nat) (hk : l.length + 7 < k) : batch_Check.f k kd p e s l = some (if mayB kd p e s l = true then 0 else 1) := by
  unfold batch_Check.f batch_within.f
  rw [Option.bind_some]
  have j0 : ∀ a, batch_Check.j0 k a kd p e s l = some (if (a && l.all mayR && mayK kd p e s l.length) = true then 0 else 1) := fun a => by
    obtain ⟨k, rfl⟩ : ∃ m, k = m + 1 := ⟨k - 1, by omega⟩
    rw [batch_Check.j0]
    exact check_l0 kd p e s l hl l.length 0 k a (by omega) (by omega) (by omega)
  rw [j0, j0]
  have h3 : (!([p, e, s].any batch_within.p)) = decide (0 ≤ p ∧ p ≤ 1099511627776 ∧ 0 ≤ e ∧ e ≤ 1099511627776 ∧ 0 ≤ s ∧ s ≤ 1099511627776) := by
    show (!(batch_within.p p || (batch_within.p e || (batch_within.p s || false)))) = _
    rw [Bool.or_false]
    unfold batch_within.p
    rw [← Bool.decide_or, ← Bool.decide_or, ← decide_not]
    exact decide_eq_decide.mpr (by omega)
  rw [h3]
  unfold mayB mayH
  have hlen : decide ((l.length : Int) ≤ 64) = decide (l.length ≤ 64) := decide_eq_decide.mpr (by omega)
  by_cases c : 0 ≤ p ∧ p ≤ 1099511627776 ∧ 0 ≤ e ∧ e ≤ 1099511627776 ∧ 0 ≤ s ∧ s ≤ 1099511627776
  · rw [decide_eq_true c, if_pos rfl, hlen]
    by_cases c2 : p ≤ 8
    · rw [if_pos c2, decide_eq_true (show 0 ≤ p ∧ p ≤ 8 ∧ 0 ≤ e ∧ e ≤ 1099511627776 ∧ 0 ≤ s ∧ s ≤ 1099511627776 by omega), Bool.true_and]
    · rw [if_neg c2, decide_eq_false (show ¬ (0 ≤ p ∧ p ≤ 8 ∧ 0 ≤ e ∧ e ≤ 1099511627776 ∧ 0 ≤ s ∧ s ≤ 1099511627776) by omega), Bool.false_and, Bool.false_and, Bool.false_and, Bool.false_and, Bool.false_and]
  · rw [decide_eq_false c, if_neg (by decide), decide_eq_false (show ¬ (0 ≤ p ∧ p ≤ 8 ∧ 0 ≤ e ∧ e ≤ 1099511627776 ∧ 0 ≤ s ∧ s ≤ 1099511627776) by omega), Bool.false_and, Bool.false_and, Bool.false_and, Bool.false_and, Bool.false_and]
end Go.Proofs.Ytikbpjdgihheiaa.Bt
set_option linter.unusedVariables false
set_option linter.unusedSimpArgs false
namespace Go.Proofs.Ytikbpjdgihheiaa.Be
open Go.RowKit Go.Proofs.Ytikbpjdgihheiaa.Vm Go.Proofs.Ytikbpjdgihheiaa.Vref Go.Proofs.Ytikbpjdgihheiaa.Vp Go.Proofs.Ytikbpjdgihheiaa.Bt Go.Proofs.Ytikbpjdgihheiaa.P Go.Proofs.YtikbpjdgihheiaaW.PrintWords Go.Proofs.YtikbpjdgihheiaaW.PrintLast
def encR (x : S57) : List UInt8 := enc x.f0 ++ enc x.f1 ++ ptext x.f2.data.toList
def encB (kd p e s : Int) (l : List S57) : List UInt8 := [kd, p, e, s, (l.length : Int)].flatMap enc ++ l.flatMap encR
theorem encR_len (x : S57) : (encR x).length ≤ x.f2.size + 30 := by
  have h1 := (enc_len x.f0).2
  have h2 := (enc_len x.f1).2
  have h3 := ptext_len x.f2.data.toList
  have h4 : x.f2.data.toList.length = x.f2.size := by simp
  unfold encR
  rw [List.length_append, List.length_append]
  omega
theorem mayR_i64 {x : S57} (h : mayR x = true) : I64 x.f0 ∧ I64 x.f1 ∧ x.f2.size ≤ 512 := by
  rw [mayR_iff] at h
  unfold I64
  omega
theorem put2 (x : S57) (h0 : I64 x.f0) (h1 : I64 x.f1) (h2 : x.f2.size ≤ 9000000000000000000) : batch_PutRecord.f x.f0 x.f1 x.f2 = some (bs (encR x)) := by
  have e1 := (enc_len x.f0).2
  have e2 := (enc_len x.f1).2
  have e3 := ptext_len x.f2.data.toList
  have e4 : x.f2.data.toList.length = x.f2.size := by simp
  have hp := putText_eq x.f2.data.toList (by omega)
  rw [bs_data] at hp
  unfold batch_PutRecord.f
  rw [putAll_eq [x.f0, x.f1] (by simp) (fun y hy => by rcases List.mem_cons.1 hy with rfl | hy; exact h0; rcases List.mem_cons.1 hy with rfl | hy; exact h1; cases hy), Option.bind_some, hp, Option.bind_some]
  have hf : [x.f0, x.f1].flatMap enc = enc x.f0 ++ enc x.f1 := by simp
  rw [hf, if_pos (by rw [size_bs, size_bs, List.length_append]; omega), append_bs]
  rfl
theorem rrec2 (x : S57) (h0 : I64 x.f0) (h1 : I64 x.f1) (h2 : x.f2.size ≤ 9000000000000000000) (k : Nat) (hk : 20 ≤ k) : headgateref06_Record.f k x.f0 x.f1 x.f2 = some (bs (encR x)) := by
  have e1 := (enc_len x.f0).2
  have e2 := (enc_len x.f1).2
  have e3 := ptext_len x.f2.data.toList
  have e4 : x.f2.data.toList.length = x.f2.size := by simp
  have hp := rtext_eq x.f2.data.toList (by omega) k (by omega)
  rw [bs_data] at hp
  unfold headgateref06_Record.f
  rw [put_f _ h0 k (by omega), Option.bind_some, put_f _ h1 k (by omega), Option.bind_some, if_pos (by rw [size_bs, size_bs]; omega), hp, Option.bind_some, append_bs, if_pos (by rw [size_bs, size_bs, List.length_append]; omega), append_bs]
  rfl
theorem mayB_iff {kd p e s : Int} {l : List S57} : mayB kd p e s l = true ↔ mayH p e s = true ∧ l.length ≤ 64 ∧ (∀ x ∈ l, mayR x = true) ∧ mayK kd p e s l.length = true := by
  unfold mayB
  rw [Bool.and_eq_true, Bool.and_eq_true, Bool.and_eq_true, decide_eq_true_eq, List.all_eq_true]
  exact ⟨fun ⟨⟨⟨a, b⟩, c⟩, d⟩ => ⟨a, b, c, d⟩, fun ⟨a, b, c, d⟩ => ⟨⟨⟨a, b⟩, c⟩, d⟩⟩
theorem mayB_i64 {kd p e s : Int} {l : List S57} (h : mayB kd p e s l = true) : I64 kd ∧ I64 p ∧ I64 e ∧ I64 s ∧ I64 (l.length : Int) := by
  obtain ⟨h1, h2, h3, h4⟩ := mayB_iff.1 h
  unfold mayH at h1
  unfold mayK at h4
  rw [decide_eq_true_eq] at h1 h4
  unfold I64
  omega
theorem encRs_len (l : List S57) (h : ∀ x ∈ l, mayR x = true) : (l.flatMap encR).length ≤ 542 * l.length := by
  induction l with
  | nil => simp
  | cons x r ih =>
    have := ih fun y hy => h y (List.mem_cons_of_mem _ hy)
    have h1 := encR_len x
    have h2 := (mayR_i64 (h x (List.mem_cons_self ..))).2.2
    rw [List.flatMap_cons, List.length_append, List.length_cons]
    omega
theorem five_len (a b c d e : Int) : ([a, b, c, d, e].flatMap enc).length ≤ 50 := by
  have h1 := (enc_len a).2
  have h2 := (enc_len b).2
  have h3 := (enc_len c).2
  have h4 := (enc_len d).2
  have h5 := (enc_len e).2
  simp only [List.flatMap_cons, List.flatMap_nil, List.length_append, List.length_nil]
  omega
theorem encB_len {kd p e s : Int} {l : List S57} (h : mayB kd p e s l = true) : (encB kd p e s l).length ≤ 40000 := by
  obtain ⟨h1, h2, h3, h4⟩ := mayB_iff.1 h
  have := encRs_len l h3
  have := five_len kd p e s (l.length : Int)
  unfold encB
  rw [List.length_append]
  omega
theorem g_eq (l : List S57) (h : ∀ x ∈ l, mayR x = true) : batch_Encode.g l = some (l.flatMap encR) := by
  induction l with
  | nil => rfl
  | cons x r ih =>
    obtain ⟨h0, h1, h2⟩ := mayR_i64 (h x (List.mem_cons_self ..))
    rw [batch_Encode.g, put2 x h0 h1 (by omega), Option.bind_some, ih fun y hy => h y (List.mem_cons_of_mem _ hy), Option.bind_some, data_bs, List.flatMap_cons]
def encodeR (kd p e s : Int) (l : List S57) : ByteArray × Int := if mayB kd p e s l = true then (bs (encB kd p e s l), 0) else (bs [], 1)
theorem encode_eq (kd p e s : Int) (l : List S57) (hl : l.length ≤ 9223372036854775807) (k : Nat) (hk : l.length + 7 < k) : batch_Encode.f k kd p e s l = some (encodeR kd p e s l) := by
  unfold batch_Encode.f encodeR
  rw [check_eq kd p e s l hl k hk, Option.bind_some]
  by_cases h : mayB kd p e s l = true
  · obtain ⟨i1, i2, i3, i4, i5⟩ := mayB_i64 h
    obtain ⟨h1, h2, h3, h4⟩ := mayB_iff.1 h
    have hn := encB_len h
    unfold encB at hn
    rw [List.length_append] at hn
    rw [if_pos h, if_pos rfl, if_pos h, putAll_eq _ (by simp) (fun y hy => by
      rcases List.mem_cons.1 hy with rfl | hy; exact i1
      rcases List.mem_cons.1 hy with rfl | hy; exact i2
      rcases List.mem_cons.1 hy with rfl | hy; exact i3
      rcases List.mem_cons.1 hy with rfl | hy; exact i4
      rcases List.mem_cons.1 hy with rfl | hy; exact i5
      cases hy), Option.bind_some, g_eq l h3, Option.bind_some, if_pos (by rw [size_bs]; omega), data_bs]
    rfl
  · rw [if_neg h, if_neg (by decide), if_neg h]
    rfl
end Go.Proofs.Ytikbpjdgihheiaa.Be
set_option linter.unusedVariables false
set_option linter.unusedSimpArgs false
namespace Go.Proofs.Ytikbpjdgihheiaa.Bd
open Go.RowKit Go.Proofs.Ytikbpjdgihheiaa.Vm Go.Proofs.Ytikbpjdgihheiaa.Vref Go.Proofs.Ytikbpjdgihheiaa.Vp Go.Proofs.Ytikbpjdgihheiaa.Bt Go.Proofs.Ytikbpjdgihheiaa.Be Go.Proofs.Ytikbpjdgihheiaa.P Go.Proofs.YtikbpjdgihheiaaW.PrintWords Go.Proofs.YtikbpjdgihheiaaW.PrintLast
def decR (l : List UInt8) : Option (S57 × List UInt8) :=
  (dec l).bind fun p => (dec p.2).bind fun q => (ttext q.2 512).bind fun t => if mayR ⟨p.1, q.1, bs t.1⟩ = true then some (⟨p.1, q.1, bs t.1⟩, t.2) else none
theorem decR_iff (l : List UInt8) (x : S57) (r : List UInt8) : decR l = some (x, r) ↔ l = encR x ++ r ∧ mayR x = true := by
  unfold decR
  constructor
  · intro h
    obtain ⟨⟨a, l1⟩, h1, g1⟩ := Option.bind_eq_some_iff.mp h
    obtain ⟨⟨b, l2⟩, h2, g2⟩ := Option.bind_eq_some_iff.mp g1
    obtain ⟨⟨t, l3⟩, h3, g3⟩ := Option.bind_eq_some_iff.mp g2
    obtain ⟨e1, -⟩ := (dec_iff _ _ _).1 h1
    obtain ⟨e2, -⟩ := (dec_iff _ _ _).1 h2
    obtain ⟨e3, -⟩ := ttext_some h3
    clear h g1 g2 h1 h2 h3
    dsimp only at e2 e3 g3
    split at g3
    · rename_i hm
      simp only [Option.some.injEq, Prod.mk.injEq] at g3
      obtain ⟨rfl, rfl⟩ := g3
      refine ⟨?_, hm⟩
      unfold encR
      dsimp only
      rw [e1, e2, e3, data_bs, List.append_assoc, List.append_assoc]
    · cases g3
  · rintro ⟨rfl, hm⟩
    obtain ⟨i0, i1, i2⟩ := mayR_i64 hm
    have hs : x.f2.data.toList.length = x.f2.size := by simp
    unfold encR
    rw [List.append_assoc, List.append_assoc, dec_enc i0, Option.bind_some]
    dsimp only
    rw [dec_enc i1, Option.bind_some]
    dsimp only
    rw [ttext_ptext _ _ (by omega) 512 (by omega), Option.bind_some]
    dsimp only
    rw [bs_data, if_pos hm]
theorem decR_enc {x : S57} (h : mayR x = true) (r : List UInt8) : decR (encR x ++ r) = some (x, r) := (decR_iff _ _ _).2 ⟨rfl, h⟩
def takeRR : Option (S57 × List UInt8) → Int × Int × ByteArray × ByteArray × Int
  | some (x, r) => (x.f0, x.f1, x.f2, bs r, 0)
  | none => (0, 0, ⟨#[]⟩, ⟨#[]⟩, 2)
theorem textR_1 (a b : List UInt8) : (textR (some (a, b))).1 = bs a := rfl
theorem textR_2 (a b : List UInt8) : (textR (some (a, b))).2.1 = bs b := rfl
theorem textR_3 (a b : List UInt8) : (textR (some (a, b))).2.2 = 0 := rfl
theorem takeRec_eq (l : List UInt8) (hl : l.length ≤ 9000000000000000000) (k : Nat) (hk : 200 ≤ k) : batch_TakeRecord.f k (bs l) = some (takeRR (decR l)) := by
  unfold batch_TakeRecord.f decR
  rw [takeAll_eq l (by omega) 2 k hk, Option.bind_some]
  have h2 : takeAllR l 2 = allR (decN 2 l) := if_neg (by omega)
  rw [h2]
  cases hd : dec l with
  | none =>
    have : decN 2 l = none := by simp only [decN, hd, Option.bind_none]
    rw [this, Option.bind_none]
    rfl
  | some p =>
    obtain ⟨a, l1⟩ := p
    rw [Option.bind_some]
    dsimp only
    cases hd1 : dec l1 with
    | none =>
      have : decN 2 l = none := by simp only [decN, hd, hd1, Option.bind_some, Option.bind_none, Option.map_none]
      rw [this, Option.bind_none]
      rfl
    | some q =>
      obtain ⟨b, l2⟩ := q
      have e1 := (dec_iff _ _ _).1 hd
      have e2 := (dec_iff _ _ _).1 hd1
      have hl2 : l2.length ≤ l.length := by rw [e1.1, e2.1, List.length_append, List.length_append]; omega
      have : decN 2 l = some ([a, b], l2) := by simp only [decN, hd, hd1, Option.bind_some, Option.map_some]
      rw [this, Option.bind_some]
      show (if (0 : Int) = 0 then _ else _) = _
      rw [if_pos rfl]
      show (varint_TakeText.f (bs l2) 512).bind _ = _
      rw [takeText_eq l2 (by omega) 512, Option.bind_some]
      dsimp only
      cases ht : ttext l2 512 with
      | none => rfl
      | some t =>
        obtain ⟨t, l3⟩ := t
        rw [Option.bind_some, textR_1, textR_2, textR_3, if_pos rfl]
        show (if (0 : Int) < 2 then (if (1 : Int) < 2 then ((batch_may.f a b (bs t)).bind _) else _) else _) = _
        rw [if_pos (by decide), if_pos (by decide), may_eq ⟨a, b, bs t⟩, Option.bind_some]
        dsimp only
        cases hm : mayR ⟨a, b, bs t⟩ with
        | true => rw [if_pos rfl, if_pos rfl]; rfl
        | false => rw [if_neg (by decide), if_neg (by decide)]; rfl
theorem rtakeRec_eq (l : List UInt8) (hl : l.length ≤ 9000000000000000000) (k : Nat) (hk : 200 ≤ k) : headgateref06_TakeRecord.f k (bs l) = some (takeRR (decR l)) := by
  unfold headgateref06_TakeRecord.f decR
  rw [take_f l (by omega) k (by omega), Option.bind_some]
  cases hd : dec l with
  | none =>
    rw [takeR_n2, takeR_n3, take_f [] (by simp) k (by omega), Option.bind_some]
    have hn : dec [] = none := by decide
    rw [hn, takeR_n2, rtakeText_eq [] (by simp) 512 k (by omega), Option.bind_some, if_neg (by decide)]
    rfl
  | some p =>
    obtain ⟨a, l1⟩ := p
    have e1 := (dec_iff _ _ _).1 hd
    have hl1 : l1.length ≤ l.length := by rw [e1.1, List.length_append]; omega
    rw [takeR_1, takeR_2, takeR_3, take_f l1 (by omega) k (by omega), Option.bind_some, Option.bind_some]
    dsimp only
    cases hd1 : dec l1 with
    | none =>
      rw [takeR_n2, rtakeText_eq [] (by simp) 512 k (by omega), Option.bind_some, if_pos rfl, takeR_n3, if_neg (by decide)]
      rfl
    | some q =>
      obtain ⟨b, l2⟩ := q
      have e2 := (dec_iff _ _ _).1 hd1
      have hl2 : l2.length ≤ l1.length := by rw [e2.1, List.length_append]; omega
      rw [takeR_1, takeR_2, takeR_3, rtakeText_eq l2 (by omega) 512 k (by omega), Option.bind_some, Option.bind_some, if_pos rfl, if_pos rfl]
      dsimp only
      cases ht : ttext l2 512 with
      | none => rfl
      | some t =>
        obtain ⟨t, l3⟩ := t
        rw [Option.bind_some, textR_1, textR_2, textR_3, if_pos rfl, rmay_eq ⟨a, b, bs t⟩, Option.bind_some]
        dsimp only
        cases hm : mayR ⟨a, b, bs t⟩ with
        | true => rw [if_pos rfl, if_pos rfl]; rfl
        | false => rw [if_neg (by decide), if_neg (by decide)]; rfl
abbrev BR := Int × Int × Int × Int × List S57 × Int
def bad : BR := (0, 0, 0, 0, [], 2)
theorem takeRR_5s (x : S57) (r : List UInt8) : (takeRR (some (x, r))).2.2.2.2 = 0 := rfl
theorem takeRR_4s (x : S57) (r : List UInt8) : (takeRR (some (x, r))).2.2.2.1 = bs r := rfl
theorem takeRR_5n : (takeRR none).2.2.2.2 = 2 := rfl
instance decS : DecidableEq S57 := fun x y => decidable_of_iff (x.f0 = y.f0 ∧ x.f1 = y.f1 ∧ x.f2 = y.f2) ⟨fun ⟨a, b, c⟩ => by obtain ⟨x0, x1, x2⟩ := x; obtain ⟨y0, y1, y2⟩ := y; dsimp only at a b c; rw [a, b, c], fun h => by rw [h]; exact ⟨rfl, rfl, rfl⟩⟩
end Go.Proofs.Ytikbpjdgihheiaa.Bd
set_option linter.unusedVariables false
set_option linter.unusedSimpArgs false
namespace Go.Proofs.Ytikbpjdgihheiaa.Wr
open Go.RowKit Go.Proofs.Ytikbpjdgihheiaa.Vm Go.Proofs.Ytikbpjdgihheiaa.Vref Go.Proofs.Ytikbpjdgihheiaa.Vp Go.Proofs.Ytikbpjdgihheiaa.Bt Go.Proofs.Ytikbpjdgihheiaa.Be Go.Proofs.Ytikbpjdgihheiaa.Bd Go.Proofs.Ytikbpjdgihheiaa.P Go.Proofs.YtikbpjdgihheiaaW.PrintWords Go.Proofs.YtikbpjdgihheiaaW.PrintLast
def inN (n : Int) : Bool := decide (0 ≤ n ∧ n ≤ 1099511627776)
theorem inN_iff {n : Int} : inN n = true ↔ 0 ≤ n ∧ n ≤ 1099511627776 := by unfold inN; exact decide_eq_true_iff
theorem inN_no {n : Int} (h : ¬ (0 ≤ n ∧ n ≤ 1099511627776)) : inN n = false := decide_eq_false h
theorem within_eq (l : List Int) : wire_within.f l = some (l.all inN) := by
  unfold wire_within.f
  refine congrArg some ?_
  induction l with
  | nil => rfl
  | cons x r ih =>
    rw [List.any_cons, List.all_cons, Bool.not_or, ih]
    have : (!wire_within.p x) = inN x := by
      unfold wire_within.p inN
      rw [← decide_not]
      exact decide_eq_decide.mpr (by omega)
    rw [this]
theorem rd_int (l : List Int) (j : Nat) (h : j < l.length) : rd l (j : Int) = l[j] := by
  unfold rd
  rw [Int.toNat_natCast, List.getD_eq_getElem?_getD, List.getElem?_eq_getElem h]
  rfl
theorem rd59_at (s : List S59) (j : Nat) (h : j < s.length) : rd_T59 s (j : Int) = s[j] := by
  unfold rd_T59
  rw [Int.toNat_natCast, List.getD_eq_getElem?_getD, List.getElem?_eq_getElem h]
  rfl
theorem rin_l0 (l : List Int) (hl : l.length ≤ 9223372036854775807) (d : Nat) : ∀ (j k : Nat), l.length - j = d → j ≤ l.length → d < k → headgateref18_in.l0 k l (j : Int) = some ((l.drop j).all inN) := by
  induction d with
  | zero =>
    intro j k hd hj hk
    obtain ⟨k, rfl⟩ : ∃ m, k = m + 1 := ⟨k - 1, by omega⟩
    rw [headgateref18_in.l0, if_neg (by omega), List.drop_of_length_le (by omega)]
    rfl
  | succ d ih =>
    intro j k hd hj hk
    obtain ⟨k, rfl⟩ : ∃ m, k = m + 1 := ⟨k - 1, by omega⟩
    have hjl : j < l.length := by omega
    have e1 : wrap64 ((j : Int) + 1) = ((j + 1 : Nat) : Int) := by rw [w64 (by omega) (by omega)]; omega
    rw [headgateref18_in.l0, if_pos (by omega), if_pos (by omega), rd_int l j hjl, e1, List.drop_eq_getElem_cons hjl, List.all_cons]
    by_cases c1 : l[j] < 0
    · rw [if_pos c1, inN_no (by omega)]; rfl
    · rw [if_neg c1]
      by_cases c2 : l[j] > 1099511627776
      · rw [if_pos c2, inN_no (by omega)]; rfl
      · rw [if_neg c2, ih (j + 1) k (by omega) (by omega) (by omega), inN_iff.2 (by omega), Bool.true_and]
theorem rin_eq (l : List Int) (hl : l.length ≤ 9223372036854775807) (k : Nat) (hk : l.length < k) : headgateref18_in.f k l = some (l.all inN) := by
  unfold headgateref18_in.f
  exact rin_l0 l hl l.length 0 k (by omega) (by omega) hk
theorem all3 (a b c : Int) : [a, b, c].all inN = decide (0 ≤ a ∧ a ≤ 1099511627776 ∧ 0 ≤ b ∧ b ≤ 1099511627776 ∧ 0 ≤ c ∧ c ≤ 1099511627776) := by
  show (inN a && (inN b && (inN c && true))) = _
  unfold inN
  rw [Bool.and_true, ← Bool.decide_and, ← Bool.decide_and]
  exact decide_eq_decide.mpr (by omega)
theorem all1 (a : Int) : [a].all inN = inN a := by
  show (inN a && true) = _
  rw [Bool.and_true]
theorem decR_encR (x : S57) (h0 : I64 x.f0) (h1 : I64 x.f1) (h2 : x.f2.size ≤ 9000000000000000000) : decR (encR x) = if mayR x = true then some (x, []) else none := by
  have hs : x.f2.data.toList.length = x.f2.size := by simp
  unfold decR encR
  rw [List.append_assoc, dec_enc h0, Option.bind_some]
  dsimp only
  rw [dec_enc h1, Option.bind_some]
  dsimp only
  rw [show ptext x.f2.data.toList = ptext x.f2.data.toList ++ [] from (List.append_nil _).symm]
  by_cases c : (x.f2.size : Int) ≤ 512
  · rw [ttext_ptext _ _ (by omega) 512 (by omega), Option.bind_some]
    dsimp only
    rw [bs_data]
  · rw [ttext_short _ _ (by omega) 512 (by omega), Option.bind_none, if_neg]
    intro h
    rw [mayR_iff] at h
    omega
def mayG (x : S59) : Bool := inN x.f0 && mayR x.f1
def encG (x : S59) : List UInt8 := enc x.f0 ++ encR x.f1
def okG (x : S59) : Prop := I64 x.f0 ∧ I64 x.f1.f0 ∧ I64 x.f1.f1 ∧ x.f1.f2.size ≤ 900000
theorem mayG_iff {x : S59} : mayG x = true ↔ inN x.f0 = true ∧ mayR x.f1 = true := by unfold mayG; rw [Bool.and_eq_true]
theorem mayG_ok {x : S59} (h : mayG x = true) : okG x := by
  obtain ⟨h1, h2⟩ := mayG_iff.1 h
  rw [inN_iff] at h1
  obtain ⟨h3, h4, h5⟩ := mayR_i64 h2
  unfold okG
  refine ⟨?_, h3, h4, by omega⟩
  unfold I64
  omega
theorem encG_len {x : S59} (h : mayG x = true) : (encG x).length ≤ 552 := by
  have h1 := encR_len x.f1
  have h2 := (enc_len x.f0).2
  have h3 := (mayR_i64 (mayG_iff.1 h).2).2.2
  unfold encG
  rw [List.length_append]
  omega
theorem gp_eq (k : Nat) (hk : 200 ≤ k) (l : List S59) (h : ∀ x ∈ l, okG x) : wire_EncodeReply.g k l = some (if l.all mayG = true then some (l.flatMap encG) else none) := by
  induction l with
  | nil => rfl
  | cons x r ih =>
    obtain ⟨h0, h1, h2, h3⟩ := h x (List.mem_cons_self ..)
    have e1 := encR_len x.f1
    have e2 := (enc_len x.f0).2
    have ih' := ih fun y hy => h y (List.mem_cons_of_mem _ hy)
    rw [wire_EncodeReply.g, put2 x.f1 h1 h2 (by omega), Option.bind_some, takeRec_eq _ (by omega) k hk, Option.bind_some, decR_encR _ h1 h2 (by omega), List.all_cons]
    by_cases c : mayR x.f1 = true
    · rw [if_pos c, takeRR_5s, if_pos rfl, within_eq, Option.bind_some, all1]
      by_cases c2 : inN x.f0 = true
      · rw [if_pos c2, put_eq h0, Option.bind_some, if_pos (by rw [size_bs, size_bs]; omega), ih', Option.bind_some, mayG_iff.2 ⟨c2, c⟩, Bool.true_and]
        by_cases c3 : r.all mayG = true
        · rw [if_pos c3, if_pos c3, data_bs, data_bs, List.flatMap_cons]; rfl
        · rw [if_neg c3, if_neg c3]; rfl
      · have : mayG x = false := Bool.eq_false_iff.2 fun e => c2 (mayG_iff.1 e).1
        rw [if_neg c2, this, Bool.false_and, if_neg (by decide)]
    · have : mayG x = false := Bool.eq_false_iff.2 fun e => c (mayG_iff.1 e).2
      rw [if_neg c, takeRR_5n, if_neg (by decide), this, Bool.false_and, if_neg (by decide)]
def mayP (a0 a1 a2 a3 : Int) (n : List Int) (l : List S59) : Bool :=
  (decide (0 ≤ a0 ∧ a0 ≤ 1099511627776 ∧ 0 ≤ a2 ∧ a2 ≤ 1099511627776 ∧ 0 ≤ a3 ∧ a3 ≤ 1099511627776 ∧ 0 ≤ a1 ∧ a1 ≤ 255 ∧ n.length ≤ 64 ∧ l.length ≤ 2048) && n.all inN) && l.all mayG
theorem mayP_iff {a0 a1 a2 a3 : Int} {n : List Int} {l : List S59} : mayP a0 a1 a2 a3 n l = true ↔ (0 ≤ a0 ∧ a0 ≤ 1099511627776 ∧ 0 ≤ a2 ∧ a2 ≤ 1099511627776 ∧ 0 ≤ a3 ∧ a3 ≤ 1099511627776 ∧ 0 ≤ a1 ∧ a1 ≤ 255 ∧ n.length ≤ 64 ∧ l.length ≤ 2048) ∧ n.all inN = true ∧ l.all mayG = true := by
  unfold mayP
  rw [Bool.and_eq_true, Bool.and_eq_true, decide_eq_true_iff, and_assoc]
def encP (a0 a1 a2 a3 : Int) (n : List Int) (l : List S59) : List UInt8 := (([a0, a1, a2, a3, (n.length : Int)].flatMap enc ++ n.flatMap enc) ++ enc (l.length : Int)) ++ l.flatMap encG
def encodeP (a0 a1 a2 a3 : Int) (n : List Int) (l : List S59) : ByteArray × Int := if mayP a0 a1 a2 a3 n l = true then (bs (encP a0 a1 a2 a3 n l), 0) else (bs [], 1)
theorem encodeP_no {a0 a1 a2 a3 : Int} {n : List Int} {l : List S59} (h : ¬ mayP a0 a1 a2 a3 n l = true) : some ((⟨#[]⟩ : ByteArray), (1 : Int)) = some (encodeP a0 a1 a2 a3 n l) := by
  unfold encodeP
  rw [if_neg h]
  rfl
theorem flat_enc_len (n : List Int) : (n.flatMap enc).length ≤ 10 * n.length := by
  induction n with
  | nil => simp
  | cons x r ih =>
    have := (enc_len x).2
    rw [List.flatMap_cons, List.length_append, List.length_cons]
    omega
theorem inN_i64 {n : Int} (h : inN n = true) : I64 n := by
  rw [inN_iff] at h
  unfold I64
  omega
theorem five_i64 {a b c d e : Int} (h1 : I64 a) (h2 : I64 b) (h3 : I64 c) (h4 : I64 d) (h5 : I64 e) : ∀ y ∈ [a, b, c, d, e], I64 y := fun y hy => by
  rcases List.mem_cons.1 hy with rfl | hy; exact h1
  rcases List.mem_cons.1 hy with rfl | hy; exact h2
  rcases List.mem_cons.1 hy with rfl | hy; exact h3
  rcases List.mem_cons.1 hy with rfl | hy; exact h4
  rcases List.mem_cons.1 hy with rfl | hy; exact h5
  cases hy
theorem encodeReply_eq (a0 a1 a2 a3 : Int) (n : List Int) (l : List S59) (h : ∀ x ∈ l, okG x) (k : Nat) (hk : 200 ≤ k) : wire_EncodeReply.f k a0 a1 a2 a3 n l = some (encodeP a0 a1 a2 a3 n l) := by
  unfold wire_EncodeReply.f
  rw [within_eq, Option.bind_some, all3]
  by_cases c1 : 0 ≤ a0 ∧ a0 ≤ 1099511627776 ∧ 0 ≤ a2 ∧ a2 ≤ 1099511627776 ∧ 0 ≤ a3 ∧ a3 ≤ 1099511627776
  · rw [decide_eq_true c1, if_pos rfl]
    by_cases c2 : a1 < 0
    · rw [if_pos c2]; exact encodeP_no fun h => by have := mayP_iff.1 h; omega
    · rw [if_neg c2]
      by_cases c3 : 255 < a1
      · rw [if_pos c3]; exact encodeP_no fun h => by have := mayP_iff.1 h; omega
      · rw [if_neg c3]
        by_cases c4 : 64 < n.length
        · rw [if_pos c4]; exact encodeP_no fun h => by have := mayP_iff.1 h; omega
        · rw [if_neg c4, within_eq, Option.bind_some]
          by_cases c5 : n.all inN = true
          · rw [if_pos c5]
            by_cases c6 : 2048 < l.length
            · rw [if_pos c6]; exact encodeP_no fun h => by have := mayP_iff.1 h; omega
            · have i0 : I64 a0 := by unfold I64; omega
              have i1 : I64 a1 := by unfold I64; omega
              have i2 : I64 a2 := by unfold I64; omega
              have i3 : I64 a3 := by unfold I64; omega
              have i4 : I64 (n.length : Int) := by unfold I64; omega
              have i5 : I64 (l.length : Int) := by unfold I64; omega
              have s1 := five_len a0 a1 a2 a3 (n.length : Int)
              have s2 := flat_enc_len n
              have s3 := (enc_len (l.length : Int)).2
              rw [if_neg c6, putAll_eq _ (by simp) (five_i64 i0 i1 i2 i3 i4), Option.bind_some, putAll_eq n (by omega) (fun y hy => inN_i64 (List.all_eq_true.1 c5 y hy)), Option.bind_some, put_eq i5, Option.bind_some, if_pos (by rw [size_bs, size_bs, size_bs]; omega), gp_eq k hk l h, Option.bind_some]
              by_cases c7 : l.all mayG = true
              · rw [if_pos c7]
                unfold encodeP
                rw [if_pos (mayP_iff.2 ⟨by omega, c5, c7⟩)]
                simp only [data_bs]
                rfl
              · rw [if_neg c7]; exact encodeP_no fun h => c7 (mayP_iff.1 h).2.2
          · rw [if_neg c5]; exact encodeP_no fun h => c5 (mayP_iff.1 h).2.1
  · rw [decide_eq_false c1, if_neg (by decide)]; exact encodeP_no fun h => by have := mayP_iff.1 h; omega
theorem lightP_l0 (a0 a1 a2 a3 : Int) (n : List Int) (l : List S59) (hl : l.length ≤ 9223372036854775807) (d : Nat) : ∀ (j k : Nat), l.length - j = d → j ≤ l.length → d < k →
    headgatelaw18_light.l0 k (j : Int) a0 a1 a2 a3 n l = some ((l.drop j).all fun x => decide ((x.f1.f2.size : Int) ≤ 1000)) := by
  induction d with
  | zero =>
    intro j k hd hj hk
    obtain ⟨k, rfl⟩ : ∃ m, k = m + 1 := ⟨k - 1, by omega⟩
    rw [headgatelaw18_light.l0, if_neg (by omega), List.drop_of_length_le (by omega)]
    rfl
  | succ d ih =>
    intro j k hd hj hk
    obtain ⟨k, rfl⟩ : ∃ m, k = m + 1 := ⟨k - 1, by omega⟩
    have hjl : j < l.length := by omega
    have e1 : wrap64 ((j : Int) + 1) = ((j + 1 : Nat) : Int) := by rw [w64 (by omega) (by omega)]; omega
    rw [headgatelaw18_light.l0, if_pos (by omega), if_pos (by omega), rd59_at l j hjl, e1, List.drop_eq_getElem_cons hjl, List.all_cons]
    by_cases c : (l[j].f1.f2.size : Int) > 1000
    · rw [if_pos c, decide_eq_false (by omega)]; rfl
    · rw [if_neg c, ih (j + 1) k (by omega) (by omega) (by omega), decide_eq_true (by omega), Bool.true_and]
def lightP (n : List Int) (l : List S59) : Bool := decide (n.length ≤ 100 ∧ l.length ≤ 100) && l.all fun x => decide ((x.f1.f2.size : Int) ≤ 1000)
theorem lightP_iff {n : List Int} {l : List S59} (h : lightP n l = true) : n.length ≤ 100 ∧ l.length ≤ 100 ∧ ∀ x ∈ l, x.f1.f2.size ≤ 1000 := by
  unfold lightP at h
  rw [Bool.and_eq_true, decide_eq_true_iff, List.all_eq_true] at h
  refine ⟨h.1.1, h.1.2, fun x hx => ?_⟩
  have := of_decide_eq_true (h.2 x hx)
  omega
theorem lightP_eq (a0 a1 a2 a3 : Int) (n : List Int) (l : List S59) (hl : l.length ≤ 9223372036854775807) (k : Nat) (hk : l.length + 1 < k) : headgatelaw18_light.f k a0 a1 a2 a3 n l = some (lightP n l) := by
  obtain ⟨k, rfl⟩ : ∃ m, k = m + 1 := ⟨k - 1, by omega⟩
  unfold headgatelaw18_light.f lightP
  by_cases c : (n.length : Int) > 100
  · rw [if_pos c, decide_eq_false (by omega), headgatelaw18_light.j0, if_pos rfl]; rfl
  · rw [if_neg c, headgatelaw18_light.j0]
    by_cases c2 : (l.length : Int) > 100
    · rw [decide_eq_true c2, if_pos rfl, decide_eq_false (by omega)]; rfl
    · rw [decide_eq_false c2, if_neg (by decide), decide_eq_true (show n.length ≤ 100 ∧ l.length ≤ 100 by omega), Bool.true_and]
      exact lightP_l0 a0 a1 a2 a3 n l hl l.length 0 k (by omega) (by omega) (by omega)
/-- A number and a record, with which bytes begin. -/
def decG (l : List UInt8) : Option (S59 × List UInt8) := (dec l).bind fun p => (decR p.2).map fun q => (⟨p.1, q.1⟩, q.2)
theorem decG_iff (l : List UInt8) (x : S59) (r : List UInt8) : decG l = some (x, r) ↔ l = encG x ++ r ∧ I64 x.f0 ∧ mayR x.f1 = true := by
  unfold decG encG
  simp only [Option.bind_eq_some_iff, Option.map_eq_some_iff, Prod.exists, Prod.mk.injEq]
  constructor
  · rintro ⟨a, l1, h1, y, l2, h2, rfl, rfl⟩
    obtain ⟨rfl, i⟩ := (dec_iff _ _ _).1 h1
    obtain ⟨rfl, m⟩ := (decR_iff _ _ _).1 h2
    exact ⟨by rw [List.append_assoc], i, m⟩
  · rintro ⟨rfl, i, m⟩
    refine ⟨x.f0, encR x.f1 ++ r, ?_, x.f1, r, decR_enc m r, rfl, rfl⟩
    rw [List.append_assoc]
    exact dec_enc i _
def decGs : Nat → List UInt8 → Option (List S59 × List UInt8)
  | 0, l => some ([], l)
  | n + 1, l => (decG l).bind fun p => (decGs n p.2).map fun q => (p.1 :: q.1, q.2)
theorem decGs_iff (n : Nat) : ∀ (l : List UInt8) (xs : List S59) (r : List UInt8), decGs n l = some (xs, r) ↔ l = xs.flatMap encG ++ r ∧ xs.length = n ∧ ∀ x ∈ xs, I64 x.f0 ∧ mayR x.f1 = true := by
  induction n with
  | zero =>
    intro l xs r
    simp only [decGs, Option.some.injEq, Prod.mk.injEq]
    constructor
    · rintro ⟨rfl, rfl⟩; simp
    · rintro ⟨h1, h2, -⟩
      obtain rfl := List.eq_nil_of_length_eq_zero h2
      simp at h1
      exact ⟨rfl, h1⟩
  | succ n ih =>
    intro l xs r
    simp only [decGs, Option.bind_eq_some_iff, Option.map_eq_some_iff, Prod.exists, Prod.mk.injEq]
    constructor
    · rintro ⟨x, l', hd, ys, r', hn, rfl, rfl⟩
      obtain ⟨rfl, hx⟩ := (decG_iff _ _ _).1 hd
      obtain ⟨rfl, hl, hall⟩ := (ih _ _ _).1 hn
      refine ⟨by simp, by simp [hl], fun y hy => ?_⟩
      rcases List.mem_cons.1 hy with rfl | hy
      · exact hx
      · exact hall y hy
    · rintro ⟨rfl, h2, h3⟩
      cases xs with
      | nil => simp at h2
      | cons x ys =>
        have hx := h3 x (List.mem_cons_self ..)
        refine ⟨x, ys.flatMap encG ++ r, ?_, ys, r, (ih _ _ _).2 ⟨rfl, by simpa using h2, fun y hy => h3 y (List.mem_cons_of_mem _ hy)⟩, rfl, rfl⟩
        exact (decG_iff _ _ _).2 ⟨by rw [List.flatMap_cons, List.append_assoc], hx⟩
abbrev PR := Int × Int × Int × Int × List Int × List S59 × Int
def badP : PR := (0, 0, 0, 0, [], [], 2)
def tailP (a0 a1 a2 a3 : Int) (n : List Int) (acc : List S59) : Option (List S59 × List UInt8) → PR
  | some (xs, r) => if r = [] ∧ mayP a0 a1 a2 a3 n (acc ++ xs) = true then (a0, a1, a2, a3, n, acc ++ xs, 0) else badP
  | none => badP
theorem tailP_no {a0 a1 a2 a3 : Int} {n : List Int} {acc : List S59} (h : ∀ xs, ¬ mayP a0 a1 a2 a3 n (acc ++ xs) = true) (o : Option (List S59 × List UInt8)) : tailP a0 a1 a2 a3 n acc o = badP := by
  match o with
  | none => rfl
  | some (xs, r) => exact if_neg fun e => h xs e.2
def decP (l : List UInt8) : PR := match decN 5 l with
  | some (h, r) => if rd h 1 < 0 ∨ rd h 1 > 255 ∨ rd h 4 < 0 ∨ rd h 4 > 64 then badP else match decN (rd h 4).toNat r with
    | some (n, r2) => match dec r2 with
      | some (c, r3) => if c < 0 ∨ c > 2048 then badP else tailP (rd h 0) (rd h 1) (rd h 2) (rd h 3) n [] (decGs c.toNat r3)
      | none => badP
    | none => badP
  | none => badP
theorem decP_ok {l : List UInt8} {a0 a1 a2 a3 c : Int} {n : List Int} {xs : List S59} (h : decP l = (a0, a1, a2, a3, n, xs, c)) (h0 : c = 0) : mayP a0 a1 a2 a3 n xs = true ∧ l = encP a0 a1 a2 a3 n xs := by
  subst h0
  unfold decP at h
  cases hd : decN 5 l with
  | none => rw [hd] at h; simp [badP] at h
  | some q =>
    obtain ⟨hh, r⟩ := q
    obtain ⟨e1, h5, -⟩ := (decN_iff _ _ _ _).1 hd
    rw [hd] at h
    dsimp only at h
    split at h
    · simp [badP] at h
    · rename_i hc
      cases hn : decN (rd hh 4).toNat r with
      | none => rw [hn] at h; simp [badP] at h
      | some q =>
        obtain ⟨n', r2⟩ := q
        obtain ⟨e2, hn5, -⟩ := (decN_iff _ _ _ _).1 hn
        rw [hn] at h
        dsimp only at h
        cases hd2 : dec r2 with
        | none => rw [hd2] at h; simp [badP] at h
        | some q =>
          obtain ⟨m, r3⟩ := q
          obtain ⟨e3, -⟩ := (dec_iff _ _ _).1 hd2
          rw [hd2] at h
          dsimp only at h
          split at h
          · simp [badP] at h
          · rename_i hm
            cases hr : decGs m.toNat r3 with
            | none => rw [hr] at h; simp [badP, tailP] at h
            | some q =>
              obtain ⟨ys, r4⟩ := q
              obtain ⟨e4, hy, -⟩ := (decGs_iff _ _ _ _).1 hr
              rw [hr] at h
              unfold tailP at h
              dsimp only at h
              split at h
              · rename_i hb
                obtain ⟨rfl, hb⟩ := hb
                simp only [List.nil_append, Prod.mk.injEq, and_true] at h hb
                obtain ⟨rfl, rfl, rfl, rfl, rfl, rfl⟩ := h
                refine ⟨hb, ?_⟩
                match hh, h5 with
                | [b0, b1, b2, b3, b4], _ =>
                  have hr4 : rd [b0, b1, b2, b3, b4] 4 = b4 := rfl
                  rw [hr4] at hn5 hc
                  have h4 : b4 = (n'.length : Int) := by omega
                  have h6 : m = (ys.length : Int) := by omega
                  rw [e1, e2, e3, e4, List.append_nil, h4, h6]
                  unfold encP
                  simp only [List.append_assoc]
                  rfl
              · simp [badP] at h
theorem mayP_i64 {a0 a1 a2 a3 : Int} {n : List Int} {l : List S59} (h : mayP a0 a1 a2 a3 n l = true) : I64 a0 ∧ I64 a1 ∧ I64 a2 ∧ I64 a3 ∧ I64 (n.length : Int) ∧ I64 (l.length : Int) := by
  have := (mayP_iff.1 h).1
  unfold I64
  omega
theorem tailP_or (a0 a1 a2 a3 : Int) (n : List Int) (acc : List S59) (o : Option (List S59 × List UInt8)) : (tailP a0 a1 a2 a3 n acc o).2.2.2.2.2.2 = 0 ∨ tailP a0 a1 a2 a3 n acc o = badP := by
  match o with
  | none => exact .inr rfl
  | some (xs, r) =>
    unfold tailP
    dsimp only
    split
    · exact .inl rfl
    · exact .inr rfl
theorem decP_or (l : List UInt8) : (decP l).2.2.2.2.2.2 = 0 ∨ decP l = badP := by
  unfold decP
  cases decN 5 l with
  | none => exact .inr rfl
  | some q =>
    obtain ⟨h, r⟩ := q
    dsimp only
    split
    · exact .inr rfl
    · cases decN (rd h 4).toNat r with
      | none => exact .inr rfl
      | some q =>
        obtain ⟨n, r2⟩ := q
        dsimp only
        cases dec r2 with
        | none => exact .inr rfl
        | some q =>
          obtain ⟨c, r3⟩ := q
          dsimp only
          split
          · exact .inr rfl
          · exact tailP_or ..
theorem decodeP_l0 (a0 a1 a2 a3 : Int) (n : List Int) (hP : ∀ xs : List S59, xs.length ≤ 2048 → xs.all mayG = true → mayP a0 a1 a2 a3 n xs = true) (d : Nat) : ∀ (l : List UInt8) (m i : Int) (acc : List S59) (k : Nat), l.length ≤ 9000000000000000000 → 0 ≤ i → i ≤ m → m ≤ 2048 → m - i = d → acc.length + d ≤ 2048 → acc.all mayG = true → 2 * d + 300 < k →
    wire_DecodeReply.l0 k (bs l) m i 0 0 0 0 a0 a1 a2 a3 n acc = some (tailP a0 a1 a2 a3 n acc (decGs d l)) := by
  induction d with
  | zero =>
    intro l m i acc k hl h0 h1 h64 hd ha hg hk
    obtain ⟨k, rfl⟩ : ∃ m, k = m + 1 := ⟨k - 1, by omega⟩
    rw [wire_DecodeReply.l0, if_neg (by omega), toList_bs]
    show _ = some (if l = [] ∧ mayP a0 a1 a2 a3 n (acc ++ []) = true then (a0, a1, a2, a3, n, acc ++ [], 0) else badP)
    rw [List.append_nil]
    by_cases c : l = []
    · rw [if_pos c, if_pos ⟨c, hP acc (by omega) hg⟩]
    · rw [if_neg c, if_neg (fun h => c h.1)]; rfl
  | succ d ih =>
    intro l m i acc k hl h0 h1 h64 hd ha hg hk
    obtain ⟨k, rfl⟩ : ∃ m, k = m + 1 + 1 := ⟨k - 2, by omega⟩
    have jt : ∀ r b0 b1 b2 b3, wire_DecodeReply.j4 (k + 1) r m i true 0 0 0 0 a0 a1 a2 a3 n acc b0 b1 b2 b3 = some badP := fun r b0 b1 b2 b3 => by rw [wire_DecodeReply.j4, if_pos rfl]; rfl
    rw [wire_DecodeReply.l0, if_pos (by omega), take_eq l (by omega), Option.bind_some]
    cases hq : dec l with
    | none =>
      rw [takeR_n3, if_neg (by decide), jt]
      simp only [decGs, decG, hq, Option.bind_none]
      rfl
    | some p =>
      obtain ⟨o, l1⟩ := p
      have e1 := (dec_iff _ _ _).1 hq
      have hl1 : l1.length ≤ l.length := by rw [e1.1, List.length_append]; omega
      rw [takeR_3, takeR_2, takeR_1, if_pos rfl, within_eq, Option.bind_some, all1]
      by_cases c : inN o = true
      · rw [c, wire_DecodeReply.j4, if_neg (by decide), takeRec_eq l1 (by omega) k (by omega), Option.bind_some]
        cases hr : decR l1 with
        | none =>
          rw [takeRR_5n, if_neg (by decide)]
          simp only [decGs, decG, hq, hr, Option.bind_some, Option.map_none, Option.bind_none]
          rfl
        | some q =>
          obtain ⟨x, r⟩ := q
          have e2 := (decR_iff _ _ _).1 hr
          have hrl : r.length ≤ l1.length := by rw [e2.1, List.length_append]; omega
          rw [takeRR_5s, takeRR_4s, if_pos rfl, if_pos (by omega), w64 (by omega) (by omega)]
          show wire_DecodeReply.l0 k (bs r) m (i + 1) 0 0 0 0 a0 a1 a2 a3 n (acc ++ [(⟨o, x⟩ : S59)]) = _
          rw [ih r m (i + 1) (acc ++ [(⟨o, x⟩ : S59)]) k (by omega) (by omega) (by omega) h64 (by omega) (by rw [List.length_append, List.length_singleton]; omega) (by rw [List.all_append, hg, Bool.true_and]; show (mayG ⟨o, x⟩ && true) = true; rw [Bool.and_true]; exact mayG_iff.2 ⟨c, e2.2⟩) (by omega)]
          simp only [decGs, decG, hq, hr, Option.bind_some, Option.map_some]
          cases decGs d r with
          | none => rfl
          | some q =>
            show some (tailP a0 a1 a2 a3 n (acc ++ [(⟨o, x⟩ : S59)]) (some (q.1, q.2))) = some (tailP a0 a1 a2 a3 n acc (some ((⟨o, x⟩ : S59) :: q.1, q.2)))
            simp only [tailP, List.append_assoc, List.singleton_append]
      · have c' : inN o = false := Bool.eq_false_iff.2 c
        rw [c', show (!false) = true from rfl, jt]
        refine congrArg some ?_
        simp only [decGs, decG, hq, Option.bind_some]
        cases decR l1 with
        | none => rfl
        | some q =>
          simp only [Option.map_some, Option.bind_some]
          cases decGs d q.2 with
          | none => rfl
          | some q2 =>
            symm
            refine if_neg fun e => ?_
            have h3 := (mayP_iff.1 e.2).2.2
            rw [List.all_append, Bool.and_eq_true] at h3
            have h4 := h3.2
            rw [show ((⟨o, q.1⟩ : S59) :: q2.1).all mayG = (mayG ⟨o, q.1⟩ && q2.1.all mayG) from rfl, Bool.and_eq_true] at h4
            exact c (mayG_iff.1 h4.1).1
theorem decodeReply_eq (l : List UInt8) (hl : l.length ≤ 9000000000000000000) (k : Nat) (hk : 5000 ≤ k) : wire_DecodeReply.f k (bs l) = some (decP l) := by
  obtain ⟨k, rfl⟩ : ∃ m, k = m + 1 + 1 + 1 := ⟨k - 3, by omega⟩
  unfold wire_DecodeReply.f decP
  have j0t : ∀ x r a b c d, wire_DecodeReply.j0 (k + 1 + 1 + 1) x r true 0 0 0 0 a b c d = some badP := fun x r a b c d => by rw [wire_DecodeReply.j0, if_pos rfl]; rfl
  have j1t : ∀ r a b c d n, wire_DecodeReply.j1 (k + 1 + 1) r true 0 0 0 0 a b c d n = some badP := fun r a b c d n => by rw [wire_DecodeReply.j1, if_pos rfl]; rfl
  have j2t : ∀ r m a b c d n, wire_DecodeReply.j2 (k + 1) r m true 0 0 0 0 a b c d n = some badP := fun r m a b c d n => by rw [wire_DecodeReply.j2, if_pos rfl]; rfl
  rw [takeAll_eq l (by omega) 5 _ (by omega), Option.bind_some, show takeAllR l 5 = allR (decN 5 l) from if_neg (by omega)]
  cases hd : decN 5 l with
  | none => rfl
  | some q =>
    obtain ⟨h, r⟩ := q
    obtain ⟨e1, h5, -⟩ := (decN_iff _ _ _ _).1 hd
    have hrl : r.length ≤ l.length := by rw [e1, List.length_append]; omega
    have q1 : (allR (some (h, r))).1 = h := rfl
    have q2 : (allR (some (h, r))).2.1 = bs r := rfl
    have q3 : (allR (some (h, r))).2.2 = 0 := rfl
    rw [q1, q2, q3, if_pos rfl, if_pos (by omega), if_pos (by omega), if_pos (by omega), within_eq, Option.bind_some, all3, j0t]
    dsimp only
    by_cases c0 : 0 ≤ rd h 0 ∧ rd h 0 ≤ 1099511627776 ∧ 0 ≤ rd h 2 ∧ rd h 2 ≤ 1099511627776 ∧ 0 ≤ rd h 3 ∧ rd h 3 ≤ 1099511627776
    · rw [decide_eq_true c0, if_pos rfl, if_pos (by omega)]
      by_cases c1 : rd h 1 < 0
      · rw [if_pos c1, if_pos (.inl c1)]
      · rw [if_neg c1]
        by_cases c2 : rd h 1 > 255
        · rw [decide_eq_true c2, j0t, if_pos (.inr (.inl c2))]
        · rw [decide_eq_false c2, wire_DecodeReply.j0, if_neg (by decide), if_pos (by omega), if_pos (by omega), takeAll_eq r (by omega) _ _ (by omega), Option.bind_some, j1t]
          by_cases c3 : rd h 4 < 0 ∨ rd h 4 > 64
          · rw [show takeAllR r (rd h 4) = ([], bs [], 1) from if_pos c3, if_neg (show ¬ ((([] : List Int), bs [], (1 : Int)).2.2 = 0) by decide), if_pos (.inr (.inr c3))]
          · rw [show takeAllR r (rd h 4) = allR (decN (rd h 4).toNat r) from if_neg c3, if_neg (show ¬ (rd h 1 < 0 ∨ rd h 1 > 255 ∨ rd h 4 < 0 ∨ rd h 4 > 64) by omega)]
            cases hn : decN (rd h 4).toNat r with
            | none => rfl
            | some q =>
              obtain ⟨n, r2⟩ := q
              obtain ⟨e2, hn5, -⟩ := (decN_iff _ _ _ _).1 hn
              have hr2 : r2.length ≤ r.length := by rw [e2, List.length_append]; omega
              have q1 : (allR (some (n, r2))).1 = n := rfl
              have q2 : (allR (some (n, r2))).2.1 = bs r2 := rfl
              have q3 : (allR (some (n, r2))).2.2 = 0 := rfl
              rw [q1, q2, q3, if_pos rfl, within_eq, Option.bind_some]
              dsimp only
              by_cases c4 : n.all inN = true
              · rw [c4, wire_DecodeReply.j1, if_neg (by decide), take_eq r2 (by omega), Option.bind_some, j2t]
                cases hd2 : dec r2 with
                | none => rfl
                | some q =>
                  obtain ⟨m, r3⟩ := q
                  have e3 := (dec_iff _ _ _).1 hd2
                  have hr3 : r3.length ≤ r2.length := by rw [e3.1, List.length_append]; omega
                  rw [takeR_1, takeR_2, takeR_3, if_pos rfl]
                  dsimp only
                  by_cases c5 : m < 0
                  · rw [if_pos c5, if_pos (.inl c5)]
                  · rw [if_neg c5]
                    by_cases c6 : m > 2048
                    · rw [decide_eq_true c6, j2t, if_pos (.inr c6)]
                    · rw [decide_eq_false c6, wire_DecodeReply.j2, if_neg (by decide), if_neg (by omega)]
                      exact decodeP_l0 _ _ _ _ n (fun xs hx hg => mayP_iff.2 ⟨by omega, c4, hg⟩) m.toNat r3 m 0 [] k (by omega) (by omega) (by omega) (by omega) (by omega) (by simp; omega) rfl (by omega)
              · rw [Bool.eq_false_iff.2 c4, show (!false) = true from rfl, j1t]
                cases dec r2 with
                | none => rfl
                | some q =>
                  dsimp only
                  split
                  · rfl
                  · rw [tailP_no fun xs e => c4 (mayP_iff.1 e).2.1]
    · rw [decide_eq_false c0, if_neg (by decide)]
      split
      · rfl
      · cases decN (rd h 4).toNat r with
        | none => rfl
        | some q =>
          dsimp only
          cases dec q.2 with
          | none => rfl
          | some q =>
            dsimp only
            split
            · rfl
            · rw [tailP_no fun xs e => by have := mayP_iff.1 e; omega]
theorem rmayP_l0 (a0 a1 a2 a3 : Int) (n : List Int) (l : List S59) (hl : l.length ≤ 9223372036854775807) (d : Nat) : ∀ (j k : Nat), l.length - j = d → j ≤ l.length → d + 4 < k →
    headgateref18_MayReply.l0 k (j : Int) a0 a1 a2 a3 n l = some ((l.drop j).all mayG) := by
  induction d with
  | zero =>
    intro j k hd hj hk
    obtain ⟨k, rfl⟩ : ∃ m, k = m + 1 := ⟨k - 1, by omega⟩
    rw [headgateref18_MayReply.l0, if_neg (by omega), List.drop_of_length_le (by omega)]
    rfl
  | succ d ih =>
    intro j k hd hj hk
    obtain ⟨k, rfl⟩ : ∃ m, k = m + 1 := ⟨k - 1, by omega⟩
    have hjl : j < l.length := by omega
    have e1 : wrap64 ((j : Int) + 1) = ((j + 1 : Nat) : Int) := by rw [w64 (by omega) (by omega)]; omega
    rw [headgateref18_MayReply.l0, if_pos (by omega), if_pos (by omega), rd59_at l j hjl, rin_eq _ (by simp) k (by simp; omega), Option.bind_some, all1, List.drop_eq_getElem_cons hjl, List.all_cons]
    by_cases c1 : inN l[j].f0 = true
    · rw [if_pos c1, rmay_eq, Option.bind_some]
      by_cases c2 : mayR l[j].f1 = true
      · rw [if_pos c2, e1, ih (j + 1) k (by omega) (by omega) (by omega), mayG_iff.2 ⟨c1, c2⟩, Bool.true_and]
      · have : mayG l[j] = false := Bool.eq_false_iff.2 fun e => c2 (mayG_iff.1 e).2
        rw [if_neg c2, this]; rfl
    · have : mayG l[j] = false := Bool.eq_false_iff.2 fun e => c1 (mayG_iff.1 e).1
      rw [if_neg c1, this]; rfl
theorem rmayP_eq (a0 a1 a2 a3 : Int) (n : List Int) (l : List S59) (hl : l.length ≤ 9223372036854775807) (hn : n.length ≤ 9223372036854775807) (k : Nat) (hk : l.length + n.length + 70 < k) : headgateref18_MayReply.f k a0 a1 a2 a3 n l = some (mayP a0 a1 a2 a3 n l) := by
  obtain ⟨k, rfl⟩ : ∃ m, k = m + 1 := ⟨k - 1, by omega⟩
  have jt : headgateref18_MayReply.j0 (k + 1) true a0 a1 a2 a3 n l = some false := by rw [headgateref18_MayReply.j0, if_pos rfl]
  have no : ¬ mayP a0 a1 a2 a3 n l = true → some false = some (mayP a0 a1 a2 a3 n l) := fun h => by rw [Bool.eq_false_iff.2 h]
  unfold headgateref18_MayReply.f
  rw [rin_eq _ (by simp) _ (by simp; omega), Option.bind_some, all3, jt]
  by_cases c1 : 0 ≤ a0 ∧ a0 ≤ 1099511627776 ∧ 0 ≤ a2 ∧ a2 ≤ 1099511627776 ∧ 0 ≤ a3 ∧ a3 ≤ 1099511627776
  · rw [decide_eq_true c1, if_pos rfl]
    by_cases c2 : a1 < 0
    · rw [if_pos c2]; exact no fun h => by have := mayP_iff.1 h; omega
    · rw [if_neg c2]
      by_cases c3 : a1 > 255
      · rw [if_pos c3]; exact no fun h => by have := mayP_iff.1 h; omega
      · rw [if_neg c3]
        by_cases c4 : (n.length : Int) > 64
        · rw [if_pos c4]; exact no fun h => by have := mayP_iff.1 h; omega
        · rw [if_neg c4, rin_eq n hn _ (by omega), Option.bind_some]
          by_cases c5 : n.all inN = true
          · rw [if_pos c5, headgateref18_MayReply.j0]
            by_cases c6 : (l.length : Int) > 2048
            · rw [decide_eq_true c6, if_pos rfl]; exact no fun h => by have := mayP_iff.1 h; omega
            · rw [decide_eq_false c6, if_neg (by decide)]
              refine (rmayP_l0 a0 a1 a2 a3 n l hl l.length 0 k (by omega) (by omega) (by omega)).trans ?_
              unfold mayP
              rw [decide_eq_true (by omega), c5]
              rfl
          · rw [if_neg c5]; exact no fun h => c5 (mayP_iff.1 h).2.1
  · rw [decide_eq_false c1, if_neg (by decide)]; exact no fun h => by have := mayP_iff.1 h; omega
theorem rencodeP_l0 (a0 a1 a2 a3 : Int) (n : List Int) (l : List S59) (hl : l.length ≤ 2048) (hm : ∀ x ∈ l, mayG x = true) (d : Nat) : ∀ (j k : Nat) (acc : List UInt8), l.length - j = d → j ≤ l.length → d + 25 < k → acc.length + 552 * d ≤ 1000000000 →
    headgateref18_EncodeReply.l0 k (bs acc) (j : Int) a0 a1 a2 a3 n l = some (bs (acc ++ (l.drop j).flatMap encG), 0) := by
  induction d with
  | zero =>
    intro j k acc hd hj hk ha
    obtain ⟨k, rfl⟩ : ∃ m, k = m + 1 := ⟨k - 1, by omega⟩
    rw [headgateref18_EncodeReply.l0, if_neg (by omega), List.drop_of_length_le (by omega), List.flatMap_nil, List.append_nil]
  | succ d ih =>
    intro j k acc hd hj hk ha
    obtain ⟨k, rfl⟩ : ∃ m, k = m + 1 := ⟨k - 1, by omega⟩
    have hjl : j < l.length := by omega
    have e1 : wrap64 ((j : Int) + 1) = ((j + 1 : Nat) : Int) := by rw [w64 (by omega) (by omega)]; omega
    have hj := hm l[j] (List.getElem_mem hjl)
    obtain ⟨h0, h1, h2, h3⟩ := mayG_ok hj
    have hx := encG_len hj
    unfold encG at hx
    rw [List.length_append] at hx
    rw [headgateref18_EncodeReply.l0, if_pos (by omega), if_pos (by omega), rd59_at l j hjl, put_f _ h0 k (by omega), Option.bind_some, if_pos (by rw [size_bs, size_bs]; omega), rrec2 _ h1 h2 (by omega) k (by omega), Option.bind_some, append_bs, if_pos (by rw [size_bs, size_bs, List.length_append]; omega), append_bs, e1, ih (j + 1) k _ (by omega) (by omega) (by omega) (by rw [List.length_append, List.length_append]; omega), List.drop_eq_getElem_cons hjl, List.flatMap_cons, List.append_assoc, List.append_assoc]
    unfold encG
    rw [List.append_assoc]
theorem rencodeReply_eq (a0 a1 a2 a3 : Int) (n : List Int) (l : List S59) (hl : l.length ≤ 9223372036854775807) (hn : n.length ≤ 9223372036854775807) (k : Nat) (hk : l.length + n.length + 200 < k) : headgateref18_EncodeReply.f k a0 a1 a2 a3 n l = some (encodeP a0 a1 a2 a3 n l) := by
  unfold headgateref18_EncodeReply.f
  rw [rmayP_eq a0 a1 a2 a3 n l hl hn k (by omega), Option.bind_some]
  by_cases h : mayP a0 a1 a2 a3 n l = true
  · obtain ⟨i0, i1, i2, i3, i4, i5⟩ := mayP_i64 h
    obtain ⟨h1, h2, h3⟩ := mayP_iff.1 h
    have n0 := (enc_len a0).2
    have n1 := (enc_len a1).2
    have n2 := (enc_len a2).2
    have n3 := (enc_len a3).2
    have n4 := (enc_len (n.length : Int)).2
    have n5 := flat_enc_len n
    have n6 := (enc_len (l.length : Int)).2
    rw [if_pos h, put_f _ i0 k (by omega), Option.bind_some, put_f _ i1 k (by omega), Option.bind_some, if_pos (by rw [size_bs, size_bs]; omega), append_bs, put_f _ i2 k (by omega), Option.bind_some, if_pos (by rw [size_bs, size_bs, List.length_append]; omega), append_bs, put_f _ i3 k (by omega), Option.bind_some, if_pos (by rw [size_bs, size_bs]; simp only [List.length_append]; omega), append_bs, put_f _ i4 k (by omega), Option.bind_some, if_pos (by rw [size_bs, size_bs]; simp only [List.length_append]; omega), append_bs, rall_eq n (by omega) (fun y hy => inN_i64 (List.all_eq_true.1 h2 y hy)) k (by omega), Option.bind_some, if_pos (by rw [size_bs, size_bs]; simp only [List.length_append]; omega), append_bs, put_f _ i5 k (by omega), Option.bind_some, if_pos (by rw [size_bs, size_bs]; simp only [List.length_append]; omega), append_bs]
    refine (rencodeP_l0 a0 a1 a2 a3 n l (by omega) (List.all_eq_true.1 h3) l.length 0 k _ (by omega) (by omega) (by omega) (by simp only [List.length_append]; omega)).trans ?_
    unfold encodeP encP
    rw [if_pos h]
    simp only [List.flatMap_cons, List.flatMap_nil, List.append_nil, List.append_assoc, List.drop_zero]
  · rw [if_neg h]; exact encodeP_no h
theorem rdecodeP_l0 (a0 a1 a2 a3 : Int) (n : List Int) (hn : n.length ≤ 64) (d : Nat) : ∀ (l : List UInt8) (m i : Int) (acc : List S59) (k : Nat), l.length ≤ 9000000000000000000 → 0 ≤ i → i ≤ m → m ≤ 2048 → m - i = d → acc.length + d ≤ 2048 → d + 3000 < k →
    headgateref18_DecodeReply.l0 k m (bs l) i 0 0 0 0 a0 a1 a2 a3 n acc = some (tailP a0 a1 a2 a3 n acc (decGs d l)) := by
  induction d with
  | zero =>
    intro l m i acc k hl h0 h1 h64 hd ha hk
    obtain ⟨k, rfl⟩ : ∃ m, k = m + 1 := ⟨k - 1, by omega⟩
    rw [headgateref18_DecodeReply.l0, if_neg (by omega), size_bs]
    show _ = some (if l = [] ∧ mayP a0 a1 a2 a3 n (acc ++ []) = true then (a0, a1, a2, a3, n, acc ++ [], 0) else badP)
    rw [List.append_nil]
    by_cases c : l = []
    · subst c
      rw [if_neg (by simp), rmayP_eq a0 a1 a2 a3 n acc (by omega) (by omega) k (by omega), Option.bind_some]
      by_cases c2 : mayP a0 a1 a2 a3 n acc = true
      · rw [if_pos c2, if_pos ⟨rfl, c2⟩]
      · rw [if_neg c2, if_neg (fun h => c2 h.2)]; rfl
    · have : 0 < l.length := List.length_pos_iff.2 c
      rw [if_pos (by omega), if_neg (fun h => c h.1)]; rfl
  | succ d ih =>
    intro l m i acc k hl h0 h1 h64 hd ha hk
    obtain ⟨k, rfl⟩ : ∃ m, k = m + 1 := ⟨k - 1, by omega⟩
    rw [headgateref18_DecodeReply.l0, if_pos (by omega), take_f l (by omega) k (by omega), Option.bind_some]
    cases hq : dec l with
    | none =>
      rw [takeR_n2, rtakeRec_eq [] (by simp) k (by omega), Option.bind_some, takeR_n3, if_neg (by decide)]
      simp only [decGs, decG, hq, Option.bind_none]
      rfl
    | some p =>
      obtain ⟨o, l1⟩ := p
      have e1 := (dec_iff _ _ _).1 hq
      have hl1 : l1.length ≤ l.length := by rw [e1.1, List.length_append]; omega
      rw [takeR_3, takeR_2, takeR_1, rtakeRec_eq l1 (by omega) k (by omega), Option.bind_some, if_pos rfl]
      cases hr : decR l1 with
      | none =>
        rw [takeRR_5n, if_neg (by decide)]
        simp only [decGs, decG, hq, hr, Option.bind_some, Option.map_none, Option.bind_none]
        rfl
      | some q =>
        obtain ⟨x, r⟩ := q
        have e2 := (decR_iff _ _ _).1 hr
        have hrl : r.length ≤ l1.length := by rw [e2.1, List.length_append]; omega
        rw [takeRR_5s, takeRR_4s, if_pos rfl, if_pos (by omega), w64 (by omega) (by omega)]
        show headgateref18_DecodeReply.l0 k m (bs r) (i + 1) 0 0 0 0 a0 a1 a2 a3 n (acc ++ [(⟨o, x⟩ : S59)]) = _
        rw [ih r m (i + 1) (acc ++ [(⟨o, x⟩ : S59)]) k (by omega) (by omega) (by omega) h64 (by omega) (by rw [List.length_append, List.length_singleton]; omega) (by omega)]
        simp only [decGs, decG, hq, hr, Option.bind_some, Option.map_some]
        cases decGs d r with
        | none => rfl
        | some q =>
          show some (tailP a0 a1 a2 a3 n (acc ++ [(⟨o, x⟩ : S59)]) (some (q.1, q.2))) = some (tailP a0 a1 a2 a3 n acc (some ((⟨o, x⟩ : S59) :: q.1, q.2)))
          simp only [tailP, List.append_assoc, List.singleton_append]
theorem rdecodeReply_eq (l : List UInt8) (hl : l.length ≤ 9000000000000000000) (k : Nat) (hk : 6000 ≤ k) : headgateref18_DecodeReply.f k (bs l) = some (decP l) := by
  obtain ⟨k, rfl⟩ : ∃ m, k = m + 1 + 1 := ⟨k - 2, by omega⟩
  unfold headgateref18_DecodeReply.f decP
  have j0t : ∀ x r, headgateref18_DecodeReply.j0 (k + 1 + 1) x r true 0 0 0 0 = some badP := fun x r => by rw [headgateref18_DecodeReply.j0, if_pos rfl]; rfl
  have j1t : ∀ x n m r, headgateref18_DecodeReply.j1 (k + 1) x n m r true 0 0 0 0 = some badP := fun x n m r => by rw [headgateref18_DecodeReply.j1, if_pos rfl]; rfl
  rw [rtakeAll_eq l (by omega) 5 _ (by omega), Option.bind_some, show takeAllR l 5 = allR (decN 5 l) from if_neg (by omega), j0t]
  cases hd : decN 5 l with
  | none => rfl
  | some q =>
    obtain ⟨h, r⟩ := q
    obtain ⟨e1, h5, -⟩ := (decN_iff _ _ _ _).1 hd
    have hrl : r.length ≤ l.length := by rw [e1, List.length_append]; omega
    have q1 : (allR (some (h, r))).1 = h := rfl
    have q2 : (allR (some (h, r))).2.1 = bs r := rfl
    have q3 : (allR (some (h, r))).2.2 = 0 := rfl
    rw [q1, q2, q3, if_pos rfl, if_pos (by omega)]
    dsimp only
    by_cases c1 : rd h 1 < 0
    · rw [if_pos c1, if_pos (.inl c1)]
    · rw [if_neg c1]
      by_cases c2 : rd h 1 > 255
      · rw [if_pos c2, if_pos (.inr (.inl c2))]
      · rw [if_neg c2, if_pos (by omega)]
        by_cases c3 : rd h 4 < 0
        · rw [if_pos c3, if_pos (.inr (.inr (.inl c3)))]
        · rw [if_neg c3]
          by_cases c4 : rd h 4 > 64
          · rw [decide_eq_true c4, j0t, if_pos (.inr (.inr (.inr c4)))]
          · rw [decide_eq_false c4, headgateref18_DecodeReply.j0, if_neg (by decide), if_pos (by omega), if_neg (show ¬ (rd h 1 < 0 ∨ rd h 1 > 255 ∨ rd h 4 < 0 ∨ rd h 4 > 64) by omega), rtakeAll_eq r (by omega) _ _ (by omega), Option.bind_some, show takeAllR r (rd h 4) = allR (decN (rd h 4).toNat r) from if_neg (by omega)]
            cases hn : decN (rd h 4).toNat r with
            | none =>
              have q2 : (allR none).2.1 = bs [] := rfl
              rw [q2, take_f [] (by simp) _ (by omega), Option.bind_some, if_neg (show ¬ ((allR none).2.2 = 0) by decide), j1t]
            | some q =>
              obtain ⟨n, r2⟩ := q
              obtain ⟨e2, hn5, -⟩ := (decN_iff _ _ _ _).1 hn
              have hr2 : r2.length ≤ r.length := by rw [e2, List.length_append]; omega
              have q1 : (allR (some (n, r2))).1 = n := rfl
              have q2 : (allR (some (n, r2))).2.1 = bs r2 := rfl
              have q3 : (allR (some (n, r2))).2.2 = 0 := rfl
              rw [q1, q2, q3, take_f r2 (by omega) _ (by omega), Option.bind_some, if_pos rfl]
              dsimp only
              cases hd2 : dec r2 with
              | none => rw [takeR_n3, if_neg (by decide), j1t]
              | some q =>
                obtain ⟨m, r3⟩ := q
                have e3 := (dec_iff _ _ _).1 hd2
                have hr3 : r3.length ≤ r2.length := by rw [e3.1, List.length_append]; omega
                rw [takeR_1, takeR_2, takeR_3, if_pos rfl]
                dsimp only
                by_cases c5 : m < 0
                · rw [if_pos c5, if_pos (.inl c5), j1t]
                · rw [if_neg c5]
                  by_cases c6 : m > 2048
                  · rw [decide_eq_true c6, j1t, if_pos (.inr c6)]
                  · rw [decide_eq_false c6, headgateref18_DecodeReply.j1, if_neg (by decide), if_neg (show ¬ (m < 0 ∨ m > 2048) by omega), if_pos (by omega), if_pos (by omega), if_pos (by omega), if_pos (by omega)]
                    exact rdecodeP_l0 _ _ _ _ n (by omega) m.toNat r3 m 0 [] k (by omega) (by omega) (by omega) (by omega) (by omega) (by simp; omega) (by omega)
instance decT : DecidableEq S59 := fun x y => decidable_of_iff (x.f0 = y.f0 ∧ x.f1 = y.f1) ⟨fun ⟨a, b⟩ => by obtain ⟨x0, x1⟩ := x; obtain ⟨y0, y1⟩ := y; dsimp only at a b; rw [a, b], fun h => by rw [h]; exact ⟨rfl, rfl⟩⟩
theorem sameP_l0 (a0 a1 a2 a3 : Int) (n : List Int) (a : List S59) (b0 b1 b2 b3 : Int) (m : List Int) (b : List S59) (hab : a.length = b.length) (ha : a.length ≤ 9223372036854775800) (d : Nat) : ∀ (i k : Nat), i ≤ a.length → a.length - i = d → d < k →
    headgateref18_SameReply.l0 k (i : Int) a0 a1 a2 a3 n a b0 b1 b2 b3 m b = some (decide (a.drop i = b.drop i)) := by
  induction d with
  | zero =>
    intro i k hi hd hk
    obtain ⟨k, rfl⟩ : ∃ m, k = m + 1 := ⟨k - 1, by omega⟩
    rw [headgateref18_SameReply.l0, if_neg (by omega), List.drop_of_length_le (by omega), List.drop_of_length_le (by omega)]
    rfl
  | succ d ih =>
    intro i k hi hd hk
    obtain ⟨k, rfl⟩ : ∃ m, k = m + 1 := ⟨k - 1, by omega⟩
    have h1 : i < a.length := by omega
    have h2 : i < b.length := by omega
    have e1 : wrap64 ((i : Int) + 1) = ((i + 1 : Nat) : Int) := by rw [w64 (by omega) (by omega)]; omega
    have hx : (!((a[i]).f0 == (b[i]).f0) || ((!((a[i]).f1.f0 == (b[i]).f1.f0) || (!((a[i]).f1.f1 == (b[i]).f1.f1) || (!((a[i]).f1.f2.toList == (b[i]).f1.f2.toList)))))) = !decide (a[i] = b[i]) := by
      generalize a[i] = x
      generalize b[i] = y
      obtain ⟨x, x0, x1, x2⟩ := x
      obtain ⟨y, y0, y1, y2⟩ := y
      have ht : x2.toList = y2.toList ↔ x2 = y2 := by
        rw [← bs_data x2, ← bs_data y2, toList_bs, toList_bs, bs_inj]
      by_cases q : x = y <;> by_cases q0 : x0 = y0 <;> by_cases q1 : x1 = y1 <;> by_cases q2 : x2 = y2 <;> simp [q, q0, q1, q2, ht]
    rw [headgateref18_SameReply.l0, if_pos (by omega), if_pos (by omega), if_pos (by omega), rd59_at a i h1, rd59_at b i h2, hx, e1]
    have da := List.drop_eq_getElem_cons h1
    have db := List.drop_eq_getElem_cons h2
    by_cases hx : a[i] = b[i]
    · rw [decide_eq_true hx, if_neg (by decide), ih (i + 1) k (by omega) (by omega) (by omega), da, db, hx]
      refine congrArg some (decide_eq_decide.mpr ⟨fun h => by rw [h], fun h => (List.cons.inj h).2⟩)
    · rw [decide_eq_false hx, if_pos (by decide), da, db]
      exact congrArg some (decide_eq_false fun h => hx (List.cons.inj h).1).symm
theorem sameReply_eq (a0 a1 a2 a3 : Int) (n : List Int) (a : List S59) (b0 b1 b2 b3 : Int) (m : List Int) (b : List S59) (ha : a.length ≤ 9223372036854775800) (hn : n.length ≤ 9223372036854775800) (k : Nat) (hk : a.length + n.length + 2 < k) : headgateref18_SameReply.f k a0 a1 a2 a3 n a b0 b1 b2 b3 m b = some (decide (a0 = b0 ∧ a1 = b1 ∧ a2 = b2 ∧ a3 = b3 ∧ n = m ∧ a = b)) := by
  obtain ⟨k, rfl⟩ : ∃ m, k = m + 1 := ⟨k - 1, by omega⟩
  have jt : headgateref18_SameReply.j0 (k + 1) true a0 a1 a2 a3 n a b0 b1 b2 b3 m b = some false := by rw [headgateref18_SameReply.j0, if_pos rfl]
  have js : headgateref18_SameReply.j0 (k + 1) ((a.length : Int) != (b.length : Int)) a0 a1 a2 a3 n a b0 b1 b2 b3 m b = some (decide (a = b)) := by
    rw [headgateref18_SameReply.j0]
    by_cases h : (a.length : Int) = (b.length : Int)
    · rw [bne_eq_false_iff_eq.mpr h, if_neg (by decide)]
      exact sameP_l0 a0 a1 a2 a3 n a b0 b1 b2 b3 m b (by omega) ha a.length 0 k (by omega) (by omega) (by omega)
    · rw [bne_iff_ne.mpr h, if_pos rfl]
      exact congrArg some (decide_eq_false fun e => h (by rw [e])).symm
  unfold headgateref18_SameReply.f
  rw [Vp.rsame_eq n m hn (k + 1) (by omega), Option.bind_some, js, jt]
  by_cases q0 : a0 = b0 <;> by_cases q1 : a1 = b1 <;> by_cases q2 : a2 = b2 <;> by_cases q3 : a3 = b3 <;> by_cases q4 : n = m <;> simp [q0, q1, q2, q3, q4]
end Go.Proofs.Ytikbpjdgihheiaa.Wr
set_option linter.unusedVariables false
set_option linter.unusedSimpArgs false
namespace Go.Proofs.Ytikbpjdgihheiaa.Wa
open Go.RowKit Go.Proofs.Ytikbpjdgihheiaa.Vm Go.Proofs.Ytikbpjdgihheiaa.Vref Go.Proofs.Ytikbpjdgihheiaa.Vp Go.Proofs.Ytikbpjdgihheiaa.Bt Go.Proofs.Ytikbpjdgihheiaa.Be Go.Proofs.Ytikbpjdgihheiaa.Bd Go.Proofs.Ytikbpjdgihheiaa.Wr Go.Proofs.Ytikbpjdgihheiaa.P Go.Proofs.YtikbpjdgihheiaaW.PrintWords Go.Proofs.YtikbpjdgihheiaaW.PrintLast
def vals (x : S43) : List Int := [x.f2, x.f3, x.f4, x.f5, x.f6, x.f7, x.f8, x.f9, x.f10, x.f11, if x.f12 = true then 1 else 0]
def ws (kd : Int) : List Int := if kd = 1 then [0] else if kd = 2 then [0, 1, 2] else if kd = 3 then [3] else if kd = 7 then [3] else if kd = 4 then [0, 1, 4, 5, 3, 6, 7] else if kd = 5 then [0, 1, 10] else if kd = 6 then [3, 7, 8, 10] else if kd = 8 then [9] else if kd = 9 then [4] else if kd = 11 then [4] else if kd = 10 then [4, 5] else []
def zb (b0 b1 b2 b3 : Int) (l : List S57) : Bool := decide (b0 = 0 ∧ b1 = 0 ∧ b2 = 0 ∧ b3 = 0 ∧ l.length = 0)
def mayV (kd id : Int) (V : List Int) : Bool := (decide (1 ≤ kd ∧ kd ≤ 11) && inN id) && (V.all inN && (List.range' 0 11).all fun i => (ws kd).contains (i : Int) || rd V (i : Int) == 0)
def mayC (kd b0 b1 b2 b3 : Int) (l : List S57) : Bool := if kd = 3 then mayB b0 b1 b2 b3 l else zb b0 b1 b2 b3 l
def mayA (x : S43) : Bool := mayV x.f0 x.f1 (vals x) && mayC x.f0 x.f13.f0 x.f13.f1 x.f13.f2 x.f13.f3 x.f13.f4
def encV (kd id : Int) (V : List Int) : List UInt8 := enc kd ++ enc id ++ (ws kd).flatMap fun p => enc (rd V p)
def encC (kd b0 b1 b2 b3 : Int) (l : List S57) : List UInt8 := if kd = 3 then ptext (encB b0 b1 b2 b3 l) else []
def encA (x : S43) : List UInt8 := encV x.f0 x.f1 (vals x) ++ encC x.f0 x.f13.f0 x.f13.f1 x.f13.f2 x.f13.f3 x.f13.f4
def encodeA (x : S43) : ByteArray × Int := if mayA x = true then (bs (encA x), 0) else (bs [], 1)
def okA (x : S43) : Prop := I64 x.f0 ∧ I64 x.f1 ∧ (∀ v ∈ vals x, I64 v) ∧ x.f13.f4.length ≤ 9223372036854775807
theorem kinds {kd : Int} (h : 1 ≤ kd ∧ kd ≤ 11) : kd = 1 ∨ kd = 2 ∨ kd = 3 ∨ kd = 4 ∨ kd = 5 ∨ kd = 6 ∨ kd = 7 ∨ kd = 8 ∨ kd = 9 ∨ kd = 10 ∨ kd = 11 := by omega
theorem mayA_iff {x : S43} : mayA x = true ↔ mayV x.f0 x.f1 (vals x) = true ∧ mayC x.f0 x.f13.f0 x.f13.f1 x.f13.f2 x.f13.f3 x.f13.f4 = true := by unfold mayA; rw [Bool.and_eq_true]
theorem mayV_kd {kd id : Int} {V : List Int} (h : mayV kd id V = true) : 1 ≤ kd ∧ kd ≤ 11 := by
  unfold mayV at h
  rw [Bool.and_eq_true, Bool.and_eq_true, decide_eq_true_iff] at h
  exact h.1.1
theorem mayV_id {kd id : Int} {V : List Int} (h : mayV kd id V = true) : inN id = true := by
  unfold mayV at h
  rw [Bool.and_eq_true, Bool.and_eq_true] at h
  exact h.1.2
theorem encodeA_no {x : S43} (h : ¬ mayA x = true) : some ((⟨#[]⟩ : ByteArray), (1 : Int)) = some (encodeA x) := by
  unfold encodeA
  rw [if_neg h]
  rfl
def upd (F : Int → Int) (o v : Int) : Int → Int := fun i => if o = i then v else F i
def col : (Int → Int) → List Int → List Int
  | _, [] => []
  | F, o :: r => F o :: col (upd F o 0) r
def clr : (Int → Int) → List Int → Int → Int
  | F, [] => F
  | F, o :: r => clr (upd F o 0) r
theorem col_len (os : List Int) : ∀ F, (col F os).length = os.length := by
  induction os with
  | nil => intro F; rfl
  | cons o r ih => intro F; rw [col, List.length_cons, List.length_cons, ih]
theorem fget_F (F : Int → Int) (o : Int) (h2 : 2 ≤ o) (h11 : o ≤ 11) : Kp.fget o (F 2) (F 3) (F 4) (F 5) (F 6) (F 7) (F 8) (F 9) (F 10) (F 11) = F o := by
  rcases (show o = 2 ∨ o = 3 ∨ o = 4 ∨ o = 5 ∨ o = 6 ∨ o = 7 ∨ o = 8 ∨ o = 9 ∨ o = 10 ∨ o = 11 by omega) with rfl | rfl | rfl | rfl | rfl | rfl | rfl | rfl | rfl | rfl <;> rfl
theorem enc_l0 (os : List Int) (hos : ∀ o ∈ os, 2 ≤ o ∧ o ≤ 11) (hl : os.length ≤ 100) (kd id : Int) (yes : Bool) (b0 b1 b2 b3 : Int) (l : List S57) (d : Nat) : ∀ (j k : Nat) (n : List Int) (F : Int → Int), os.length - j = d → j ≤ os.length → d < k → n.length + d ≤ 1000 →
    wire_EncodeAsk.l0 k n os (os.length : Int) (j : Int) kd id (F 2) (F 3) (F 4) (F 5) (F 6) (F 7) (F 8) (F 9) (F 10) (F 11) yes b0 b1 b2 b3 l = wire_EncodeAsk.l0 (k - d) (n ++ col F (os.drop j)) os (os.length : Int) (os.length : Int) kd id (clr F (os.drop j) 2) (clr F (os.drop j) 3) (clr F (os.drop j) 4) (clr F (os.drop j) 5) (clr F (os.drop j) 6) (clr F (os.drop j) 7) (clr F (os.drop j) 8) (clr F (os.drop j) 9) (clr F (os.drop j) 10) (clr F (os.drop j) 11) yes b0 b1 b2 b3 l := by
  induction d with
  | zero =>
    intro j k n F hd hj hk hn
    obtain rfl : j = os.length := by omega
    rw [List.drop_length, col, List.append_nil, clr]
    rfl
  | succ d ih =>
    intro j k n F hd hj hk hn
    obtain ⟨k, rfl⟩ : ∃ m, k = m + 1 := ⟨k - 1, by omega⟩
    have hjl : j < os.length := by omega
    have e1 : wrap64 ((j : Int) + 1) = ((j + 1 : Nat) : Int) := by rw [w64 (by omega) (by omega)]; omega
    obtain ⟨h2, h11⟩ := hos os[j] (List.getElem_mem hjl)
    have := ih (j + 1) k (n ++ [F os[j]]) (upd F os[j] 0) (by omega) (by omega) (by omega) (by rw [List.length_append, List.length_singleton]; omega)
    rw [show k + 1 - (d + 1) = k - d by omega, List.drop_eq_getElem_cons hjl, col, clr, show n ++ F os[j] :: col (upd F os[j] 0) (os.drop (j + 1)) = (n ++ [F os[j]]) ++ col (upd F os[j] 0) (os.drop (j + 1)) by simp, ← this]
    rw [wire_EncodeAsk.l0, if_pos (by omega), if_pos (by omega), if_pos (by omega), rd_int os j hjl, if_pos h2, if_pos h11, if_pos (by omega), e1, fget_F F _ h2 h11]
    rfl
def bareB (a2 a3 a4 a5 a6 a7 a8 a9 a10 a11 : Int) (yes : Bool) : Bool := decide (yes = false ∧ a2 = 0 ∧ a3 = 0 ∧ a4 = 0 ∧ a5 = 0 ∧ a6 = 0 ∧ a7 = 0 ∧ a8 = 0 ∧ a9 = 0 ∧ a10 = 0 ∧ a11 = 0)
theorem bare_eq (kd id a2 a3 a4 a5 a6 a7 a8 a9 a10 a11 : Int) (yes : Bool) (b0 b1 b2 b3 : Int) (l : List S57) : wire_bare.f kd id a2 a3 a4 a5 a6 a7 a8 a9 a10 a11 yes b0 b1 b2 b3 l = some (bareB a2 a3 a4 a5 a6 a7 a8 a9 a10 a11 yes) := by
  unfold wire_bare.f bareB
  cases yes
  · rw [if_neg (by decide)]
    by_cases h2 : a2 = 0
    · rw [if_pos h2]
      by_cases h3 : a3 = 0
      · rw [if_pos h3]
        by_cases h4 : a4 = 0
        · rw [if_pos h4]
          by_cases h5 : a5 = 0
          · rw [if_pos h5]
            by_cases h6 : a6 = 0
            · rw [if_pos h6]
              by_cases h7 : a7 = 0
              · rw [if_pos h7]
                by_cases h8 : a8 = 0
                · rw [if_pos h8]
                  by_cases h9 : a9 = 0
                  · rw [if_pos h9]
                    by_cases h10 : a10 = 0
                    · rw [if_pos h10]
                      by_cases h11 : a11 = 0
                      · simp [h2, h3, h4, h5, h6, h7, h8, h9, h10, h11]
                      · simp [h2, h3, h4, h5, h6, h7, h8, h9, h10, h11]
                    · rw [if_neg h10]; simp [h10]
                  · rw [if_neg h9]; simp [h9]
                · rw [if_neg h8]; simp [h8]
              · rw [if_neg h7]; simp [h7]
            · rw [if_neg h6]; simp [h6]
          · rw [if_neg h5]; simp [h5]
        · rw [if_neg h4]; simp [h4]
      · rw [if_neg h3]; simp [h3]
    · rw [if_neg h2]; simp [h2]
  · rw [if_pos rfl]; simp
theorem zb_eq (k : Nat) (b0 b1 b2 b3 : Int) (l : List S57) (s : ByteArray) : (if b0 = 0 then (if b1 = 0 then (if b2 = 0 then (if b3 = 0 then (wire_EncodeAsk.j4 (k + 1) s (decide ((l.length : Int) > 0))) else (wire_EncodeAsk.j4 (k + 1) s true)) else (wire_EncodeAsk.j4 (k + 1) s true)) else (wire_EncodeAsk.j4 (k + 1) s true)) else (wire_EncodeAsk.j4 (k + 1) s true)) = some (if zb b0 b1 b2 b3 l = true then (s, 0) else (bs [], 1)) := by
  have jt : wire_EncodeAsk.j4 (k + 1) s true = some (bs [], 1) := by rw [wire_EncodeAsk.j4, if_pos rfl]; rfl
  have no : ¬ (b0 = 0 ∧ b1 = 0 ∧ b2 = 0 ∧ b3 = 0 ∧ l.length = 0) → some (bs [], (1 : Int)) = some (if zb b0 b1 b2 b3 l = true then (s, 0) else (bs [], 1)) := fun h => by unfold zb; rw [decide_eq_false h, if_neg (by decide)]
  rw [jt]
  by_cases h0 : b0 = 0
  · rw [if_pos h0]
    by_cases h1 : b1 = 0
    · rw [if_pos h1]
      by_cases h2 : b2 = 0
      · rw [if_pos h2]
        by_cases h3 : b3 = 0
        · rw [if_pos h3]
          by_cases h4 : l.length = 0
          · unfold zb
            rw [wire_EncodeAsk.j4, decide_eq_false (by omega), if_neg (by decide), decide_eq_true ⟨h0, h1, h2, h3, h4⟩, if_pos rfl]
          · rw [decide_eq_true (by omega), jt]; exact no (by omega)
        · rw [if_neg h3]; exact no (by omega)
      · rw [if_neg h2]; exact no (by omega)
    · rw [if_neg h1]; exact no (by omega)
  · rw [if_neg h0]; exact no (by omega)
theorem enc_j2 (k : Nat) (n : List Int) (hn : n.length ≤ 1000) (hi : ∀ v ∈ n, I64 v) (kd id a2 a3 a4 a5 a6 a7 a8 a9 a10 a11 : Int) (yes : Bool) (b0 b1 b2 b3 : Int) (l : List S57) (hl : l.length ≤ 9223372036854775807) (hk : l.length + 20 < k) :
    wire_EncodeAsk.j2 k n kd id a2 a3 a4 a5 a6 a7 a8 a9 a10 a11 yes b0 b1 b2 b3 l = some (if ((n.all inN && bareB a2 a3 a4 a5 a6 a7 a8 a9 a10 a11 yes) && mayC kd b0 b1 b2 b3 l) = true then (bs (n.flatMap enc ++ encC kd b0 b1 b2 b3 l), 0) else (bs [], 1)) := by
  obtain ⟨k, rfl⟩ : ∃ m, k = m + 1 + 1 := ⟨k - 2, by omega⟩
  have jt : ∀ s, wire_EncodeAsk.j3 (k + 1) s true = some (bs [], 1) := fun s => by rw [wire_EncodeAsk.j3, if_pos rfl]; rfl
  have jt4 : ∀ s, wire_EncodeAsk.j4 (k + 1) s true = some (bs [], 1) := fun s => by rw [wire_EncodeAsk.j4, if_pos rfl]; rfl
  have hf := flat_enc_len n
  unfold mayC encC
  rw [wire_EncodeAsk.j2, putAll_eq n (by omega) hi, Option.bind_some]
  by_cases c : kd = 3
  · rw [if_pos c, if_pos c, if_pos c, encode_eq b0 b1 b2 b3 l hl _ (by omega), Option.bind_some]
    unfold encodeR
    by_cases m : mayB b0 b1 b2 b3 l = true
    · have hb := encB_len m
      rw [if_pos m, if_pos rfl]
      dsimp only
      have ht := ptext_len (encB b0 b1 b2 b3 l)
      rw [putText_eq _ (by omega), Option.bind_some, if_pos (by rw [size_bs, size_bs]; omega), within_eq, Option.bind_some, bare_eq, Option.bind_some, jt, m, Bool.and_true, append_bs]
      by_cases c2 : n.all inN = true
      · rw [if_pos c2, c2, Bool.true_and]
        by_cases c3 : bareB a2 a3 a4 a5 a6 a7 a8 a9 a10 a11 yes = true
        · rw [if_pos c3, if_pos c3, if_pos rfl, wire_EncodeAsk.j3]
          rfl
        · rw [if_neg c3, if_neg c3]
      · rw [if_neg c2, Bool.eq_false_iff.2 c2, Bool.false_and, if_neg (by decide)]
    · rw [if_neg m, if_neg (by decide), Bool.eq_false_iff.2 m, Bool.and_false, if_neg (by decide)]
      rfl
  · rw [if_neg c, if_neg c, if_neg c, within_eq, Option.bind_some, bare_eq, Option.bind_some, zb_eq, jt4, List.append_nil]
    by_cases c2 : n.all inN = true
    · rw [if_pos c2, c2, Bool.true_and]
      by_cases c3 : bareB a2 a3 a4 a5 a6 a7 a8 a9 a10 a11 yes = true
      · rw [if_pos c3, c3, Bool.true_and]
      · rw [if_neg c3, Bool.eq_false_iff.2 c3, Bool.false_and, if_neg (by decide)]
    · rw [if_neg c2, Bool.eq_false_iff.2 c2, Bool.false_and, Bool.false_and, if_neg (by decide)]
def flg (kd : Int) : Bool := decide (kd = 5 ∨ kd = 6)
theorem flagged_eq (kd : Int) : wire_flagged.f kd = some (flg kd) := by
  unfold wire_flagged.f flg
  by_cases h : kd = 5
  · rw [if_pos h, decide_eq_true (.inl h)]
  · rw [if_neg h]
    by_cases h2 : kd = 6
    · simp [h2]
    · simp [h, h2]
def numsA (kd id : Int) (F : Int → Int) (yes : Bool) : List Int := ([kd, id] ++ col F (wire_fields.o kd)) ++ if flg kd = true then [if yes = true then 1 else 0] else []
theorem enc_end (os : List Int) (k : Nat) (n : List Int) (hn : n.length ≤ 900) (hi : ∀ v ∈ n, I64 v) (kd id a2 a3 a4 a5 a6 a7 a8 a9 a10 a11 : Int) (yes : Bool) (b0 b1 b2 b3 : Int) (l : List S57) (hl : l.length ≤ 9223372036854775807) (hk : l.length + 30 < k) :
    wire_EncodeAsk.l0 k n os (os.length : Int) (os.length : Int) kd id a2 a3 a4 a5 a6 a7 a8 a9 a10 a11 yes b0 b1 b2 b3 l = some (if (((n ++ if flg kd = true then [if yes = true then 1 else 0] else []).all inN && bareB a2 a3 a4 a5 a6 a7 a8 a9 a10 a11 (!flg kd && yes)) && mayC kd b0 b1 b2 b3 l) = true then (bs ((n ++ if flg kd = true then [if yes = true then 1 else 0] else []).flatMap enc ++ encC kd b0 b1 b2 b3 l), 0) else (bs [], 1)) := by
  obtain ⟨k, rfl⟩ : ∃ m, k = m + 1 := ⟨k - 1, by omega⟩
  rw [wire_EncodeAsk.l0, if_neg (by omega), flagged_eq, Option.bind_some]
  have one : ∀ v : Int, I64 v → ∀ y ∈ n ++ [v], I64 y := fun v hv y hy => by
    rcases List.mem_append.1 hy with hy | hy
    · exact hi y hy
    · rw [List.mem_singleton.1 hy]; exact hv
  cases hf : flg kd with
  | true =>
    rw [if_pos rfl, if_pos rfl]
    cases yes with
    | true =>
      rw [if_pos rfl, if_pos rfl, if_pos (by omega), enc_j2 k _ (by rw [List.length_append, List.length_singleton]; omega) (one 1 (by unfold I64; omega)) _ _ _ _ _ _ _ _ _ _ _ _ _ _ _ _ _ _ hl (by omega)]
      rfl
    | false =>
      simp only [Bool.false_eq_true, if_false]
      rw [if_pos (by omega), enc_j2 k _ (by rw [List.length_append, List.length_singleton]; omega) (one 0 (by unfold I64; omega)) _ _ _ _ _ _ _ _ _ _ _ _ _ _ _ _ _ _ hl (by omega)]
      rfl
  | false =>
    simp only [Bool.false_eq_true, if_false]
    rw [List.append_nil, enc_j2 k _ (by omega) hi _ _ _ _ _ _ _ _ _ _ _ _ _ _ _ _ _ _ hl (by omega)]
    rfl
theorem ofs_bd (kd : Int) : ∀ o ∈ wire_fields.o kd, 2 ≤ o ∧ o ≤ 11 := by
  by_cases h : 1 ≤ kd ∧ kd ≤ 11
  · rcases kinds h with rfl | rfl | rfl | rfl | rfl | rfl | rfl | rfl | rfl | rfl | rfl <;> decide
  · have : wire_fields.o kd = [] := by
      unfold wire_fields.o
      rw [if_neg (by omega), if_neg (by omega), if_neg (by omega), if_neg (by omega), if_neg (by omega), if_neg (by omega), if_neg (by omega), if_neg (by omega), if_neg (by omega)]
    rw [this]
    intro o ho
    cases ho
theorem ofs_len (kd : Int) : (wire_fields.o kd).length ≤ 7 := by
  by_cases h : 1 ≤ kd ∧ kd ≤ 11
  · rcases kinds h with rfl | rfl | rfl | rfl | rfl | rfl | rfl | rfl | rfl | rfl | rfl <;> decide
  · have : wire_fields.o kd = [] := by
      unfold wire_fields.o
      rw [if_neg (by omega), if_neg (by omega), if_neg (by omega), if_neg (by omega), if_neg (by omega), if_neg (by omega), if_neg (by omega), if_neg (by omega), if_neg (by omega)]
    rw [this]
    decide
def FV (V : List Int) : Int → Int := fun i => rd V (i - 2)
theorem nums_may (kd id v0 v1 v2 v3 v4 v5 v6 v7 v8 v9 : Int) (yes : Bool) (h : 1 ≤ kd ∧ kd ≤ 11) : ((numsA kd id (FV [v0, v1, v2, v3, v4, v5, v6, v7, v8, v9, if yes = true then 1 else 0]) yes).all inN && bareB (clr (FV [v0, v1, v2, v3, v4, v5, v6, v7, v8, v9, if yes = true then 1 else 0]) (wire_fields.o kd) 2) (clr (FV [v0, v1, v2, v3, v4, v5, v6, v7, v8, v9, if yes = true then 1 else 0]) (wire_fields.o kd) 3) (clr (FV [v0, v1, v2, v3, v4, v5, v6, v7, v8, v9, if yes = true then 1 else 0]) (wire_fields.o kd) 4) (clr (FV [v0, v1, v2, v3, v4, v5, v6, v7, v8, v9, if yes = true then 1 else 0]) (wire_fields.o kd) 5) (clr (FV [v0, v1, v2, v3, v4, v5, v6, v7, v8, v9, if yes = true then 1 else 0]) (wire_fields.o kd) 6) (clr (FV [v0, v1, v2, v3, v4, v5, v6, v7, v8, v9, if yes = true then 1 else 0]) (wire_fields.o kd) 7) (clr (FV [v0, v1, v2, v3, v4, v5, v6, v7, v8, v9, if yes = true then 1 else 0]) (wire_fields.o kd) 8) (clr (FV [v0, v1, v2, v3, v4, v5, v6, v7, v8, v9, if yes = true then 1 else 0]) (wire_fields.o kd) 9) (clr (FV [v0, v1, v2, v3, v4, v5, v6, v7, v8, v9, if yes = true then 1 else 0]) (wire_fields.o kd) 10) (clr (FV [v0, v1, v2, v3, v4, v5, v6, v7, v8, v9, if yes = true then 1 else 0]) (wire_fields.o kd) 11) (!flg kd && yes)) = mayV kd id [v0, v1, v2, v3, v4, v5, v6, v7, v8, v9, if yes = true then 1 else 0] := by
  rw [Bool.eq_iff_iff]
  have hr : List.range' 0 11 = [0, 1, 2, 3, 4, 5, 6, 7, 8, 9, 10] := rfl
  unfold mayV
  rw [hr]
  rcases kinds h with rfl | rfl | rfl | rfl | rfl | rfl | rfl | rfl | rfl | rfl | rfl <;> cases yes <;>
    simp [numsA, wire_fields.o, col, clr, upd, FV, rd, bareB, flg, ws, inN] <;> omega
theorem nums_enc (kd id v0 v1 v2 v3 v4 v5 v6 v7 v8 v9 : Int) (yes : Bool) (h : 1 ≤ kd ∧ kd ≤ 11) : (numsA kd id (FV [v0, v1, v2, v3, v4, v5, v6, v7, v8, v9, if yes = true then 1 else 0]) yes).flatMap enc = encV kd id [v0, v1, v2, v3, v4, v5, v6, v7, v8, v9, if yes = true then 1 else 0] := by
  unfold encV
  rcases kinds h with rfl | rfl | rfl | rfl | rfl | rfl | rfl | rfl | rfl | rfl | rfl <;> cases yes <;>
    simp [numsA, wire_fields.o, col, upd, FV, rd, flg, ws]
theorem nums_i64 (kd id : Int) (F : Int → Int) (hkd : I64 kd) (hid : I64 id) (hF : ∀ i, 2 ≤ i → i ≤ 11 → I64 (F i)) : ∀ v ∈ [kd, id] ++ col F (wire_fields.o kd), I64 v := by
  have hc : ∀ (os : List Int) (F : Int → Int), (∀ i, 2 ≤ i → i ≤ 11 → I64 (F i)) → (∀ o ∈ os, 2 ≤ o ∧ o ≤ 11) → ∀ v ∈ col F os, I64 v := by
    intro os
    induction os with
    | nil => intro F _ _ v hv; cases hv
    | cons o r ih =>
      intro F hF ho v hv
      rw [col] at hv
      rcases List.mem_cons.1 hv with rfl | hv
      · exact hF o (ho o (List.mem_cons_self ..)).1 (ho o (List.mem_cons_self ..)).2
      · refine ih (upd F o 0) (fun i h2 h11 => ?_) (fun y hy => ho y (List.mem_cons_of_mem _ hy)) v hv
        unfold upd
        split
        · unfold I64; omega
        · exact hF i h2 h11
  intro v hv
  rcases List.mem_append.1 hv with hv | hv
  · rcases List.mem_cons.1 hv with rfl | hv
    · exact hkd
    · rw [List.mem_singleton.1 hv]; exact hid
  · exact hc _ F hF (ofs_bd kd) v hv
theorem encodeAsk_eq (x : S43) (h : okA x) (k : Nat) (hk : x.f13.f4.length + 100 < k) : wire_EncodeAsk.f k x.f0 x.f1 x.f2 x.f3 x.f4 x.f5 x.f6 x.f7 x.f8 x.f9 x.f10 x.f11 x.f12 x.f13.f0 x.f13.f1 x.f13.f2 x.f13.f3 x.f13.f4 = some (encodeA x) := by
  obtain ⟨hkd, hid, hv, hl⟩ := h
  obtain ⟨k, rfl⟩ : ∃ m, k = m + 1 := ⟨k - 1, by omega⟩
  unfold wire_EncodeAsk.f wire_fields.f
  rw [Option.bind_some]
  dsimp only
  have jt : wire_EncodeAsk.j0 (k + 1) (wire_fields.o x.f0) true x.f0 x.f1 x.f2 x.f3 x.f4 x.f5 x.f6 x.f7 x.f8 x.f9 x.f10 x.f11 x.f12 x.f13.f0 x.f13.f1 x.f13.f2 x.f13.f3 x.f13.f4 = some ((⟨#[]⟩ : ByteArray), 1) := by rw [wire_EncodeAsk.j0, if_pos rfl]
  by_cases c : 1 ≤ x.f0 ∧ x.f0 ≤ 11
  · rw [decide_eq_true c, if_pos rfl, within_eq, Option.bind_some, all1]
    by_cases c2 : inN x.f1 = true
    · rw [c2, wire_EncodeAsk.j0, if_neg (by decide)]
      have h0 := enc_l0 (wire_fields.o x.f0) (ofs_bd _) (by have := ofs_len x.f0; omega) x.f0 x.f1 x.f12 x.f13.f0 x.f13.f1 x.f13.f2 x.f13.f3 x.f13.f4 (wire_fields.o x.f0).length 0 k [x.f0, x.f1] (FV (vals x)) (by omega) (by omega) (by have := ofs_len x.f0; omega) (by have := ofs_len x.f0; simp; omega)
      refine h0.trans ?_
      rw [List.drop_zero]
      have hm : ∀ j : Int, 2 ≤ j → j ≤ 11 → I64 (FV (vals x) j) := fun j h2 h11 => by
        refine hv _ ?_
        rcases (show j = 2 ∨ j = 3 ∨ j = 4 ∨ j = 5 ∨ j = 6 ∨ j = 7 ∨ j = 8 ∨ j = 9 ∨ j = 10 ∨ j = 11 by omega) with rfl | rfl | rfl | rfl | rfl | rfl | rfl | rfl | rfl | rfl <;> simp [FV, vals, rd]
      rw [enc_end _ _ _ (by have := ofs_len x.f0; rw [List.length_append, col_len]; simp; omega) (nums_i64 _ _ _ hkd hid hm) _ _ _ _ _ _ _ _ _ _ _ _ _ _ _ _ _ _ hl (by have := ofs_len x.f0; omega)]
      have e1 := nums_may x.f0 x.f1 x.f2 x.f3 x.f4 x.f5 x.f6 x.f7 x.f8 x.f9 x.f10 x.f11 x.f12 c
      have e2 := nums_enc x.f0 x.f1 x.f2 x.f3 x.f4 x.f5 x.f6 x.f7 x.f8 x.f9 x.f10 x.f11 x.f12 c
      unfold numsA at e1 e2
      refine congrArg some ?_
      unfold encodeA encA mayA
      rw [show vals x = [x.f2, x.f3, x.f4, x.f5, x.f6, x.f7, x.f8, x.f9, x.f10, x.f11, if x.f12 = true then 1 else 0] from rfl, e1, e2]
    · rw [Bool.eq_false_iff.2 c2, show (!false) = true from rfl, jt]
      exact encodeA_no fun e => c2 (mayV_id (mayA_iff.1 e).1)
  · rw [decide_eq_false c, if_neg (by decide), jt]
    exact encodeA_no fun e => c (mayV_kd (mayA_iff.1 e).1)
theorem awake_eq (k : Nat) (hk : 300 ≤ k) : headgatelaw18_awake.f k = some true := by
  unfold headgatelaw18_awake.f
  have z : ∀ v ∈ ([] : List S59), okG v := fun v hv => by cases hv
  have i0 : ∀ n : Int, 0 ≤ n → n ≤ 100 → I64 n := fun n h0 h1 => by unfold I64; omega
  have h1 := encodeAsk_eq ⟨8, 1, 0, 0, 0, 0, 0, 0, 0, 0, 0, 2, false, ⟨0, 0, 0, 0, []⟩⟩ ⟨i0 8 (by decide) (by decide), i0 1 (by decide) (by decide), fun v hv => by simp [vals] at hv; refine i0 v ?_ ?_ <;> omega, by simp⟩ k (by simp; omega)
  have h2 := encodeAsk_eq ⟨5, 3, 1, 2, 0, 0, 0, 0, 0, 0, 0, 0, true, ⟨0, 0, 0, 0, []⟩⟩ ⟨i0 5 (by decide) (by decide), i0 3 (by decide) (by decide), fun v hv => by simp [vals] at hv; refine i0 v ?_ ?_ <;> omega, by simp⟩ k (by simp; omega)
  have h3 := encodeReply_eq 1 0 5 0 [] [] z k (by omega)
  dsimp only at h1 h2
  have m1 : encodeA ⟨8, 1, 0, 0, 0, 0, 0, 0, 0, 0, 0, 2, false, ⟨0, 0, 0, 0, []⟩⟩ = (bs [16, 2, 4], 0) := by
    unfold encodeA
    rw [if_pos (by decide)]
    refine Prod.ext (bs_inj.2 ?_) rfl
    decide
  have m2 : encodeA ⟨5, 3, 1, 2, 0, 0, 0, 0, 0, 0, 0, 0, true, ⟨0, 0, 0, 0, []⟩⟩ = (bs [10, 6, 2, 4, 2], 0) := by
    unfold encodeA
    rw [if_pos (by decide)]
    refine Prod.ext (bs_inj.2 ?_) rfl
    decide
  have m3 : encodeP 1 0 5 0 [] [] = (bs [2, 0, 10, 0, 0, 0], 0) := by
    unfold encodeP
    rw [if_pos (by decide)]
    refine Prod.ext (bs_inj.2 ?_) rfl
    decide
  rw [h1, Option.bind_some, h2, Option.bind_some, h3, Option.bind_some, m1, m2, m3]
  dsimp only
  rw [toList_bs, toList_bs, toList_bs, if_pos rfl, if_pos rfl, if_pos rfl, if_pos rfl, if_pos rfl]
  rfl
end Go.Proofs.Ytikbpjdgihheiaa.Wa
set_option linter.unusedVariables false
set_option linter.unusedSimpArgs false
namespace Go.Proofs.Ytikbpjdgihheiaa.Pure
open Go.RowKit Go.Proofs.Ytikbpjdgihheiaa.Vm Go.Proofs.Ytikbpjdgihheiaa.Vref Go.Proofs.Ytikbpjdgihheiaa.Vp Go.Proofs.Ytikbpjdgihheiaa.Bt Go.Proofs.Ytikbpjdgihheiaa.Be Go.Proofs.Ytikbpjdgihheiaa.Bd Go.Proofs.Ytikbpjdgihheiaa.Wr Go.Proofs.Ytikbpjdgihheiaa.Wa Go.Proofs.Ytikbpjdgihheiaa.P Go.Proofs.YtikbpjdgihheiaaW.PrintWords Go.Proofs.YtikbpjdgihheiaaW.PrintLast
theorem WireReplies : headgatelaw18_WireReplies.Pure := by
  intro a0 a1 a2 a3 n l s w0 w1 w2 w3 wn wl hs
  obtain ⟨s, rfl⟩ := bs_of s
  refine ⟨l.length + n.length + 10000 + 1, ?_⟩
  have jt : headgatelaw18_WireReplies.j0 (l.length + n.length + 10000 + 1) (bs s) true a0 a1 a2 a3 n l = some true := by
    rw [headgatelaw18_WireReplies.j0, if_pos rfl, Wa.awake_eq _ (by omega), Option.bind_some]
  unfold headgatelaw18_WireReplies.f
  rw [lightP_eq a0 a1 a2 a3 n l wl.1 _ (by omega), Option.bind_some, jt]
  by_cases c : lightP n l = true
  · rw [if_pos c]
    by_cases c2 : ((bs s).size : Int) > 5000
    · rw [decide_eq_true c2, jt]
    · rw [decide_eq_false c2, headgatelaw18_WireReplies.j0, if_neg (by decide)]
      rw [size_bs] at c2
      obtain ⟨ln, ll, lx⟩ := lightP_iff c
      have ok : ∀ x ∈ l, okG x := fun x hx => by
        obtain ⟨h0, h1, h2, h3⟩ := wl.2 x hx
        have := lx x hx
        exact ⟨i64_of h0, i64_of h1, i64_of h2, by omega⟩
      rw [encodeReply_eq a0 a1 a2 a3 n l ok _ (by omega), Option.bind_some, rencodeReply_eq a0 a1 a2 a3 n l (by omega) (by omega) _ (by omega), Option.bind_some, decodeReply_eq s (by omega) _ (by omega), Option.bind_some, rdecodeReply_eq s (by omega) _ (by omega), Option.bind_some, if_pos rfl, if_pos rfl]
      have hl : (decP s).2.2.2.2.2.1.length ≤ 2048 ∧ (decP s).2.2.2.2.1.length ≤ 64 := by
        rcases decP_or s with h | h
        · have := (mayP_iff.1 (decP_ok (show decP s = ((decP s).1, (decP s).2.1, (decP s).2.2.1, (decP s).2.2.2.1, (decP s).2.2.2.2.1, (decP s).2.2.2.2.2.1, (decP s).2.2.2.2.2.2) from rfl) h).1).1
          omega
        · rw [h]; simp [badP]
      rw [sameReply_eq _ _ _ _ _ _ _ _ _ _ _ _ (by omega) (by omega) _ (by omega), Option.bind_some, if_pos (by simp), if_pos rfl, Wa.awake_eq _ (by omega), Option.bind_some]
  · rw [if_neg c]
end Go.Proofs.Ytikbpjdgihheiaa.Pure
