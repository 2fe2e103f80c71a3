/- For any batch and any bytes: batch.Encode and batch.Decode tell what the document's references tell; chapter 6's examples hold. No condition. -/
import Derived.Test.YthmckblcckcaaaaPx2
import Derived.Test.YthmckblcckcaaaaPx3
import Derived.Test.YthmckblcckcaaaaPx4
import Derived.Test.YthmckblcckcaaaaPx5
import Derived.Test.YthmckblcckcaaaaPx6
import Derived.Test.YthmckblcckcaaaaPx7
import Derived.Test.YthmckblcckcaaaaPx10
import Derived.Test.YthmckblcckcaaaaPx11
import Derived.Test.YthmckblcckcaaaaPx12
import Derived.Test.YthmckblcckcaaaaPx13
import Derived.Test.YthmckblcckcaaaaPx14
import Derived.Test.YthmckblcckcaaaaPx15
import Derived.Test.YthmckblcckcaaaaPx16
import Derived.Test.YthmckblcckcaaaaPx17
import Derived.Test.YthmckblcckcaaaaPx19
import Derived.Test.YthmckblcckcaaaaPx20
import Derived.Test.YthmckblcckcaaaaPx21
import Derived.Test.YthmckblcckcaaaaPx22
import Derived.Test.YthmckblcckcaaaaPx23
import Derived.Test.YthmckblcckcaaaaPx24
import Derived.Test.YthmckblcckcaaaaPx25
import Derived.Test.YthmckblcckcaaaaVm
import Derived.Laws.Bits64
set_option linter.unusedVariables false
set_option linter.unusedSimpArgs false
namespace Go.Proofs.Ythmckblcckcaaaa.Vref
open Go.RowKit Go.Proofs.Ythmckblcckcaaaa.Vm Go.Proofs.Ythmckblcckcaaaa.P Go.Proofs.YthmckblcckcaaaaW.PrintWords
theorem u64w (n : Int) : IntKind.u64.wrap n = n % 18446744073709551616 := IntKind.wrap_u64 n
theorem w64 {x : Int} (h0 : -9223372036854775808 ≤ x) (h1 : x ≤ 9223372036854775807) : wrap64 x = x := by unfold wrap64; omega
def toB (xs : List Int) : List UInt8 := xs.map fun n => UInt8.ofNat n.toNat
theorem toB_snoc (xs : List Int) (n : Int) : toB (xs ++ [n]) = toB xs ++ [UInt8.ofNat n.toNat] := by simp [toB]
theorem strOfNums_snoc (xs : List Int) (n : Int) : strOfNums (xs ++ [n]) = bs (toB xs ++ [UInt8.ofNat n.toNat]) := by rw [strOfNums_bs]; simp [toB]
theorem put_l0 (f : Nat) : ∀ (u k : Nat) (acc : List Int), u < 2 * 128 ^ f → f ≤ 9 → f < k → acc.length + f < 100 →
    headgateref01_Put.l0 k (u : Int) acc = some (bs (toB acc ++ sev f u)) := by
  induction f with
  | zero =>
    intro u k acc hu _ hk hl
    obtain ⟨k, rfl⟩ : ∃ m, k = m + 1 := ⟨k - 1, by omega⟩
    simp only [headgateref01_Put.l0]
    rw [if_neg (by omega), if_pos (by omega), strOfNums_snoc]
    have : ((u : Int) % 256).toNat = u := by omega
    rw [this]
    rfl
  | succ f ih =>
    intro u k acc hu hf hk hl
    have hs : 2 * 128 ^ (f + 1) = 128 * (2 * 128 ^ f) := by rw [Nat.pow_succ]; omega
    have hmax : 2 * 128 ^ (f + 1) ≤ 18446744073709551616 := by
      have : 128 ^ (f + 1) ≤ 128 ^ 9 := Nat.pow_le_pow_right (by decide) hf
      omega
    obtain ⟨k, rfl⟩ : ∃ m, k = m + 1 := ⟨k - 1, by omega⟩
    simp only [headgateref01_Put.l0]
    unfold sev
    by_cases h : u < 128
    · rw [if_neg (by omega), if_pos (by omega), strOfNums_snoc, if_pos h]
      have : ((u : Int) % 256).toNat = u := by omega
      rw [this]
    · rw [if_pos (by omega), if_pos (by omega), if_neg h]
      have e1 : IntKind.u64.wrap (Int.tdiv (u : Int) 128) = ((u / 128 : Nat) : Int) := by
        rw [Int.tdiv_eq_ediv_of_nonneg (by omega), u64w]; omega
      have e2 : ((IntKind.u64.wrap (Int.tmod (u : Int) 128 + 128)) % 256).toNat = u % 128 + 128 := by
        rw [Int.tmod_eq_emod_of_nonneg (by omega), u64w]; omega
      rw [e1, ih (u / 128) k _ (by omega) (by omega) (by omega) (by simp; omega), toB_snoc, e2]
      simp
theorem put_f (n : Int) (hn : I64 n) (k : Nat) (hk : 12 ≤ k) : headgateref01_Put.f k n = some (bs (enc n)) := by
  have hz := zz_lt.2 hn
  obtain ⟨k, rfl⟩ : ∃ m, k = m + 1 := ⟨k - 1, by omega⟩
  unfold I64 at hn
  unfold headgateref01_Put.f
  split
  · rename_i h
    have e : IntKind.u64.wrap (IntKind.u64.wrap (IntKind.u64.wrap (wrap64 (-(wrap64 (n + 1)))) * 2) + 1) = ((zz n : Nat) : Int) := by
      unfold wrap64 zz; rw [if_pos h]; simp only [u64w]; omega
    rw [e]
    simp only [headgateref01_Put.j0]
    exact put_l0 9 _ _ _ hz (by omega) (by omega) (by simp)
  · rename_i h
    have e : IntKind.u64.wrap (IntKind.u64.wrap n * 2) = ((zz n : Nat) : Int) := by
      unfold zz; rw [if_neg h]; simp only [u64w]; omega
    rw [e]
    simp only [headgateref01_Put.j0]
    exact put_l0 9 _ _ _ hz (by omega) (by omega) (by simp)
/-- What bytes' sevens come to, the first byte the lowest. -/
def m64 (n : Nat) : Nat := n % 18446744073709551616
theorem m64_lt (n : Nat) : m64 n < 18446744073709551616 := Nat.mod_lt _ (by decide)
theorem m64_of {n : Nat} (h : n < 18446744073709551616) : m64 n = n := Nat.mod_eq_of_lt h
def val : List UInt8 → Nat
  | [] => 0
  | c :: t => c.toNat % 128 + 128 * val t
theorem val_sev (f : Nat) : ∀ u, u < 2 * 128 ^ f → val (sev f u) = u := by
  induction f with
  | zero => intro u hu; simp [sev, val, toNat_ofNat_lt (show u < 256 by omega)]; omega
  | succ f ih =>
    intro u hu
    have hs : 2 * 128 ^ (f + 1) = 128 * (2 * 128 ^ f) := by rw [Nat.pow_succ]; omega
    unfold sev
    split
    · rename_i h; simp [val, toNat_ofNat_lt (show u < 256 by omega)]; omega
    · simp only [val]; rw [ih _ (by omega), toNat_ofNat_lt (by omega)]; omega
/-- All bytes of a number but its last one are 128 or more; its last one is less. -/
theorem sev_tops (f : Nat) : ∀ u, u < 2 * 128 ^ f → (∀ i, i + 1 < (sev f u).length → 128 ≤ ((sev f u).getD i 0).toNat) ∧ ((sev f u).getD ((sev f u).length - 1) 0).toNat < 128 := by
  induction f with
  | zero => intro u hu; simp [sev, toNat_ofNat_lt (show u < 256 by omega)]; omega
  | succ f ih =>
    intro u hu
    have hs : 2 * 128 ^ (f + 1) = 128 * (2 * 128 ^ f) := by rw [Nat.pow_succ]; omega
    unfold sev
    split
    · rename_i h; simp [toNat_ofNat_lt (show u < 256 by omega)]; omega
    · obtain ⟨h1, h2⟩ := ih (u / 128) (by omega)
      have hl := (sev_len f (u / 128)).1
      constructor
      · intro i hi
        cases i with
        | zero => simp only [List.getD_cons_zero]; rw [toNat_ofNat_lt (by omega)]; omega
        | succ i => simp only [List.getD_cons_succ]; exact h1 i (by simpa using hi)
      · obtain ⟨m, hm⟩ : ∃ m, (sev f (u / 128)).length = m + 1 := ⟨_, (Nat.sub_add_cancel hl).symm⟩
        simp only [List.length_cons, Nat.add_sub_cancel]
        rw [hm]
        simp only [List.getD_cons_succ]
        rw [hm] at h2
        exact h2
theorem bt_bs (l : List UInt8) (i : Nat) (h : i < l.length) : bt (bs l) (i : Int) = ((l.getD i 0).toNat : Int) := by
  unfold bt
  rw [dif_pos (by simpa using h)]
  simp only [Int.toNat_natCast]
  rw [List.getD_eq_getElem?_getD, List.getElem?_eq_getElem h]
  rfl
/-- Where the scan stops: at the first byte below 128, at the end, or behind ten. -/
theorem take_l0 (l : List UInt8) (hl : l.length ≤ 9223372036854775800) (k : Nat) : ∀ (d i : Nat), i ≤ l.length → i ≤ 10 → d = 10 - i → (∀ j : Nat, j < i → 128 ≤ (l.getD j 0).toNat) → d < k →
    ∃ i' k' : Nat, k' + d + 1 ≥ k ∧ k' < k ∧ headgateref01_Take.l0 k (bs l) (i : Int) = headgateref01_Take.j1 k' (bs l) (i' : Int) ∧ i' ≤ l.length ∧ i' ≤ 10 ∧ (∀ j : Nat, j < i' → 128 ≤ (l.getD j 0).toNat) ∧ (i' = l.length ∨ i' = 10 ∨ (i' < l.length ∧ i' < 10 ∧ (l.getD i' 0).toNat < 128)) := by
  induction k with
  | zero => intro d i _ _ _ _ hk; omega
  | succ k ih =>
    intro d i h1 h2 hd hall hk
    simp only [headgateref01_Take.l0]
    by_cases hlt : i < l.length
    · rw [if_pos (by simp; omega)]
      by_cases h10 : i < 10
      · rw [if_pos (by omega), if_pos (by omega), bt_bs l i hlt]
        by_cases hb : 128 ≤ (l.getD i 0).toNat
        · rw [if_pos (by omega)]
          have e : wrap64 ((i : Int) + 1) = ((i + 1 : Nat) : Int) := by unfold wrap64; omega
          rw [e]
          obtain ⟨i', k', ha, hb', hc, hr⟩ := ih (d - 1) (i + 1) (by omega) (by omega) (by omega) (fun j hj => by
            rcases Nat.lt_or_ge j i with h | h
            · exact hall j h
            · obtain rfl : j = i := by omega
              exact hb) (by omega)
          exact ⟨i', k', by omega, by omega, hc, hr⟩
        · rw [if_neg (by omega)]
          exact ⟨i, k, by omega, by omega, rfl, h1, h2, hall, .inr (.inr ⟨hlt, h10, by omega⟩)⟩
      · rw [if_neg (by omega)]
        exact ⟨i, k, by omega, by omega, rfl, h1, h2, hall, .inr (.inl (by omega))⟩
    · rw [if_neg (by simp; omega)]
      exact ⟨i, k, by omega, by omega, rfl, h1, h2, hall, .inl (by omega)⟩
theorem val_drop (t : List UInt8) (m : Nat) (h : m < t.length) : val (t.drop m) = (t.getD m 0).toNat % 128 + 128 * val (t.drop (m + 1)) := by
  rw [List.drop_eq_getElem_cons h, val, List.getD_eq_getElem?_getD, List.getElem?_eq_getElem h]
  rfl
theorem l1_round (k : Nat) (x0 : ByteArray) (x5 x6 x7 : Int) (h0 : 0 ≤ x7) (h1 : x7 < (x0.size : Int)) : headgateref01_Take.l1 (k + 1) x0 x5 x6 x7 = headgateref01_Take.l1 k x0 x5 (IntKind.u64.wrap ((IntKind.u64.wrap (x6 * 128)) + (Int.tmod (IntKind.u64.wrap (bt x0 x7)) 128))) (wrap64 (x7 - 1)) := by
  rw [headgateref01_Take.l1, if_pos h0, if_pos h0, if_pos h1]
theorem take_l1 (l : List UInt8) (x5 : Nat) (hx : x5 < l.length) (h10 : x5 < 10) : ∀ (m k : Nat), m ≤ x5 + 1 → m + 20 ≤ k →
    ∃ k', 12 ≤ k' ∧ headgateref01_Take.l1 k (bs l) (x5 : Int) ((m64 (val ((l.take (x5 + 1)).drop m)) : Nat) : Int) ((m : Int) - 1) = headgateref01_Take.l1 (k' + 1) (bs l) (x5 : Int) ((m64 (val (l.take (x5 + 1))) : Nat) : Int) (-1) := by
  intro m
  induction m with
  | zero =>
    intro k _ hk
    obtain ⟨k, rfl⟩ : ∃ q, k = q + 1 := ⟨k - 1, by omega⟩
    refine ⟨k, by omega, ?_⟩
    rw [List.drop_zero, show ((0 : Nat) : Int) - 1 = -1 by omega]
  | succ m ih =>
    intro k hm hk
    obtain ⟨k, rfl⟩ : ∃ q, k = q + 1 := ⟨k - 1, by omega⟩
    obtain ⟨k', h1, h2⟩ := ih k (by omega) (by omega)
    refine ⟨k', h1, ?_⟩
    rw [← h2]
    have hlen : (l.take (x5 + 1)).length = x5 + 1 := by simp; omega
    have hg : (l.take (x5 + 1)).getD m 0 = l.getD m 0 := by
      simp only [List.getD_eq_getElem?_getD]
      rw [List.getElem?_take_of_lt (by omega)]
    have hv := val_drop (l.take (x5 + 1)) m (by omega)
    rw [hg] at hv
    have hbyte := (l.getD m 0).toNat_lt
    have e0 : ((m + 1 : Nat) : Int) - 1 = (m : Int) := by omega
    rw [e0]
    rw [l1_round k (bs l) _ _ (m : Int) (by omega) (by simp; omega), bt_bs l m (by omega)]
    have e1 : wrap64 ((m : Int) - 1) = (m : Int) - 1 := by unfold wrap64; omega
    have e2 : IntKind.u64.wrap ((IntKind.u64.wrap (((m64 (val ((l.take (x5 + 1)).drop (m + 1))) : Nat) : Int) * 128)) + (Int.tmod (IntKind.u64.wrap ((l.getD m 0).toNat : Int)) 128)) = ((m64 (val ((l.take (x5 + 1)).drop m)) : Nat) : Int) := by
      rw [hv]
      simp only [u64w, m64]
      rw [Int.tmod_eq_emod_of_nonneg (by omega)]
      omega
    rw [e1, e2]
theorem take_l1' (l : List UInt8) (x5 : Nat) (hx : x5 < l.length) (h10 : x5 < 10) (k : Nat) (hk : 40 ≤ k) :
    ∃ k', 12 ≤ k' ∧ headgateref01_Take.l1 k (bs l) (x5 : Int) 0 (x5 : Int) = headgateref01_Take.l1 (k' + 1) (bs l) (x5 : Int) ((m64 (val (l.take (x5 + 1))) : Nat) : Int) (-1) := by
  obtain ⟨kk, hkk, h⟩ := take_l1 l x5 hx h10 (x5 + 1) k (by omega) (by omega)
  refine ⟨kk, hkk, ?_⟩
  have hz : val ((l.take (x5 + 1)).drop (x5 + 1)) = 0 := by
    rw [List.drop_of_length_le (by rw [List.length_take]; omega)]
    rfl
  have hm : ((m64 0 : Nat) : Int) = 0 := rfl
  have e0 : ((x5 + 1 : Nat) : Int) - 1 = (x5 : Int) := by omega
  rw [hz, hm, e0] at h
  exact h
theorem take_fin (l : List UInt8) (hl : l.length ≤ 9223372036854775800) (i : Nat) (hlt : i < l.length) (h10 : i < 10) (hall : ∀ j : Nat, j < i → 128 ≤ (l.getD j 0).toNat) (hlast : (l.getD i 0).toNat < 128) (kk : Nat) (hkk : 12 ≤ kk) (u : Nat) (hu : m64 (val (l.take (i + 1))) = u) :
    ((headgateref01_Put.f kk (uz u)).bind fun t107 => (if 0 ≤ (wrap64 ((i : Int) + 1)) then (if (wrap64 ((i : Int) + 1)) ≤ ((bs l).size : Int) then (if t107.toList = ((bs l).extract 0 ((wrap64 ((i : Int) + 1)) : Int).toNat).toList then (some (uz u, (bs l).extract ((wrap64 ((i : Int) + 1)) : Int).toNat (bs l).size, (0 : Int))) else (some (0, (⟨#[]⟩ : ByteArray), 2))) else (none)) else (none))) = some (takeR (dec l)) := by
  have hult : u < 18446744073709551616 := by rw [← hu]; exact m64_lt _
  have e1 : wrap64 ((i : Int) + 1) = ((i + 1 : Nat) : Int) := by unfold wrap64; omega
  have hn : I64 (uz u) := zz_lt.1 (by rw [zz_uz]; exact hult)
  have hb : (i : Int) + 1 ≤ ((bs l).size : Int) := by rw [size_bs]; omega
  rw [put_f _ hn kk hkk, Option.bind_some, e1, if_pos (by omega), if_pos (by omega), Int.toNat_natCast, extract_bs, extract_bs, toList_bs, toList_bs, size_bs, List.drop_zero, Nat.sub_zero]
  by_cases hc : enc (uz u) = l.take (i + 1)
  · rw [if_pos hc]
    have : dec l = some (uz u, l.drop (i + 1)) := (dec_iff _ _ _).2 ⟨by rw [hc, List.take_append_drop], hn⟩
    rw [this, List.take_of_length_le (by simp)]
    rfl
  · rw [if_neg hc]
    cases hd : dec l with
    | none => rfl
    | some p =>
      exfalso
      obtain ⟨m, r⟩ := p
      obtain ⟨rfl, hm⟩ := (dec_iff l m r).1 hd
      have htop := sev_tops 9 (zz m) (zz_lt.2 hm)
      have hlen := enc_len m
      have hget : ∀ j, j < (enc m).length → (enc m ++ r).getD j 0 = (enc m).getD j 0 := fun j hj => by
        simp only [List.getD_eq_getElem?_getD]
        rw [List.getElem?_append_left hj]
      have hi : i + 1 = (enc m).length := by
        rcases Nat.lt_trichotomy (i + 1) (enc m).length with h | h | h
        · have h1 := htop.1 i h
          rw [hget i (by omega)] at hlast
          unfold enc at hlast
          omega
        · exact h
        · have h1 := hall ((enc m).length - 1) (by omega)
          rw [hget _ (by omega)] at h1
          unfold enc at h1
          omega
      have htk : (enc m ++ r).take (i + 1) = enc m := by rw [hi, List.take_left]
      rw [htk] at hu hc
      have hv : val (enc m) = zz m := val_sev 9 _ (zz_lt.2 hm)
      have hzl := zz_lt.2 hm
      rw [hv, m64_of hzl] at hu
      apply hc
      rw [← hu, uz_zz]
theorem take_f (l : List UInt8) (hl : l.length ≤ 9223372036854775800) (k : Nat) (hk : 80 ≤ k) : headgateref01_Take.f k (bs l) = some (takeR (dec l)) := by
  unfold headgateref01_Take.f
  obtain ⟨i, k', hk1, hk2, he, hi1, hi2, hall, hend⟩ := take_l0 l hl k 10 0 (by omega) (by omega) rfl (fun j hj => by omega) (by omega)
  rw [show (0 : Int) = ((0 : Nat) : Int) from rfl, he]
  have bad : (i = l.length ∨ i = 10) → dec l = none := by
    intro hb
    cases hd : dec l with
    | none => rfl
    | some p =>
      exfalso
      obtain ⟨n, r⟩ := p
      obtain ⟨rfl, hn⟩ := (dec_iff l n r).1 hd
      have ht := (sev_tops 9 (zz n) (zz_lt.2 hn)).2
      have hlen := enc_len n
      have h1 : (enc n).length - 1 < i := by
        rcases hb with hb | hb
        · rw [List.length_append] at hb; omega
        · omega
      have h2 := hall _ h1
      have h3 : (enc n ++ r).getD ((enc n).length - 1) 0 = (enc n).getD ((enc n).length - 1) 0 := by
        simp only [List.getD_eq_getElem?_getD]
        rw [List.getElem?_append_left (by omega)]
      rw [h3] at h2
      unfold enc at h2
      omega
  obtain ⟨k', rfl⟩ : ∃ q, k' = q + 1 := ⟨k' - 1, by omega⟩
  rw [headgateref01_Take.j1]
  obtain ⟨k', rfl⟩ : ∃ q, k' = q + 1 := ⟨k' - 1, by omega⟩
  by_cases hA : i = l.length
  · rw [if_pos (by rw [size_bs]; omega), headgateref01_Take.j2, if_pos rfl, bad (.inl hA)]
    rfl
  · rw [if_neg (by rw [size_bs]; omega), headgateref01_Take.j2]
    by_cases hB : i = 10
    · rw [if_pos (beq_iff_eq.mpr (by omega)), bad (.inr hB)]
      rfl
    · rw [if_neg (by rw [beq_iff_eq]; omega)]
      obtain ⟨hlt, h10, hlast⟩ : i < l.length ∧ i < 10 ∧ (l.getD i 0).toNat < 128 := by
        rcases hend with h | h | h
        · exact absurd h hA
        · exact absurd h hB
        · exact h
      obtain ⟨kk, hkk, hl1⟩ := take_l1' l i hlt h10 k' (by omega)
      rw [hl1]
      have hult := m64_lt (val (l.take (i + 1)))
      generalize hu : m64 (val (l.take (i + 1))) = u at hult
      have hfin := take_fin l hl i hlt h10 hall hlast kk hkk u hu
      rw [headgateref01_Take.l1, if_neg (by omega)]
      have hq : Int.tdiv (u : Int) 2 = ((u / 2 : Nat) : Int) := by rw [Int.tdiv_eq_ediv_of_nonneg (by omega)]; omega
      have hr : Int.tmod (u : Int) 2 = ((u % 2 : Nat) : Int) := by rw [Int.tmod_eq_emod_of_nonneg (by omega)]; omega
      rw [hq, hr]
      by_cases hodd : u % 2 = 1
      · rw [if_pos (by omega)]
        have e : wrap64 (wrap64 (-(wrap64 (IntKind.u64.wrap ((u / 2 : Nat) : Int)))) - 1) = uz u := by
          have h1 : IntKind.u64.wrap ((u / 2 : Nat) : Int) = ((u / 2 : Nat) : Int) := by rw [u64w]; omega
          rw [h1, w64 (x := ((u / 2 : Nat) : Int)) (by omega) (by omega), w64 (x := -((u / 2 : Nat) : Int)) (by omega) (by omega), w64 (by omega) (by omega)]
          unfold uz
          rw [if_pos hodd]
        rw [e]
        exact hfin
      · rw [if_neg (by omega)]
        have e : wrap64 (IntKind.u64.wrap ((u / 2 : Nat) : Int)) = uz u := by
          have h1 : IntKind.u64.wrap ((u / 2 : Nat) : Int) = ((u / 2 : Nat) : Int) := by rw [u64w]; omega
          rw [h1, w64 (x := ((u / 2 : Nat) : Int)) (by omega) (by omega)]
          unfold uz
          rw [if_neg hodd]
        rw [e]
        exact hfin
end Go.Proofs.Ythmckblcckcaaaa.Vref
set_option linter.unusedVariables false
set_option linter.unusedSimpArgs false
namespace Go.Proofs.Ythmckblcckcaaaa.Vp
open Go.RowKit Go.Proofs.Ythmckblcckcaaaa.Vm Go.Proofs.Ythmckblcckcaaaa.Vref Go.Proofs.Ythmckblcckcaaaa.P Go.Proofs.YthmckblcckcaaaaW.PrintWords
theorem put_eq {n : Int} (h : I64 n) : varint_Put.f n = some (bs (enc n)) := if_pos h
theorem take_eq (l : List UInt8) (h : l.length ≤ 9223372036854775807) : varint_Take.f (bs l) = some (takeR (dec l)) := by
  unfold varint_Take.f
  rw [size_bs, if_pos h, data_bs]
theorem len_i64 {l : List UInt8} (h : l.length ≤ 9223372036854775807) : I64 (l.length : Int) := by unfold I64; omega
theorem takeR_1 (n : Int) (r : List UInt8) : (takeR (some (n, r))).1 = n := rfl
theorem takeR_2 (n : Int) (r : List UInt8) : (takeR (some (n, r))).2.1 = bs r := rfl
theorem takeR_3 (n : Int) (r : List UInt8) : (takeR (some (n, r))).2.2 = 0 := rfl
theorem takeR_n3 : (takeR none).2.2 = 2 := rfl
theorem takeR_n2 : (takeR none).2.1 = bs [] := rfl
/-- A text of so many bytes at most, with which bytes begin. -/
def ttext (l : List UInt8) (m : Int) : Option (List UInt8 × List UInt8) :=
  (dec l).bind fun p => if p.1 < 0 ∨ p.1 > m ∨ p.1 > (p.2.length : Int) then none else some (p.2.take p.1.toNat, p.2.drop p.1.toNat)
def textR : Option (List UInt8 × List UInt8) → ByteArray × ByteArray × Int
  | some (a, b) => (bs a, bs b, 0)
  | none => (bs [], bs [], 2)
theorem text_core (l : List UInt8) (m : Int) : (if (takeR (dec l)).2.2 = 0 then (if (takeR (dec l)).1 < 0 then (some ((⟨#[]⟩ : ByteArray), (⟨#[]⟩ : ByteArray), (2 : Int))) else (if (takeR (dec l)).1 > m then (some ((⟨#[]⟩ : ByteArray), (⟨#[]⟩ : ByteArray), 2)) else (if (takeR (dec l)).1 > ((takeR (dec l)).2.1.size : Int) then (some ((⟨#[]⟩ : ByteArray), (⟨#[]⟩ : ByteArray), 2)) else (if 0 ≤ (takeR (dec l)).1 then (if (takeR (dec l)).1 ≤ ((takeR (dec l)).2.1.size : Int) then (some ((takeR (dec l)).2.1.extract 0 ((takeR (dec l)).1 : Int).toNat, (takeR (dec l)).2.1.extract ((takeR (dec l)).1 : Int).toNat (takeR (dec l)).2.1.size, 0)) else (none)) else (none))))) else (some ((⟨#[]⟩ : ByteArray), (⟨#[]⟩ : ByteArray), 2))) = some (textR (ttext l m)) := by
  unfold ttext
  cases dec l with
  | none => rfl
  | some p =>
    obtain ⟨n, r⟩ := p
    rw [takeR_1, takeR_2, takeR_3, Option.bind_some, size_bs, if_pos rfl]
    show _ = some (textR (if n < 0 ∨ n > m ∨ n > (r.length : Int) then none else some (r.take n.toNat, r.drop n.toNat)))
    by_cases h1 : n < 0
    · rw [if_pos h1, if_pos (.inl h1)]; rfl
    · rw [if_neg h1]
      by_cases h2 : n > m
      · rw [if_pos h2, if_pos (.inr (.inl h2))]; rfl
      · rw [if_neg h2]
        by_cases h3 : n > (r.length : Int)
        · rw [if_pos h3, if_pos (.inr (.inr h3))]; rfl
        · rw [if_neg h3, if_pos (by omega), if_pos (by omega), if_neg (by omega), extract_bs, extract_bs, List.drop_zero, Nat.sub_zero, List.take_of_length_le (l := r.drop n.toNat) (by simp)]
          rfl
theorem takeText_eq (l : List UInt8) (h : l.length ≤ 9223372036854775800) (m : Int) : varint_TakeText.f (bs l) m = some (textR (ttext l m)) := by
  unfold varint_TakeText.f
  rw [take_eq l (by omega), Option.bind_some]
  exact text_core l m
theorem rtakeText_eq (l : List UInt8) (h : l.length ≤ 9223372036854775800) (m : Int) (k : Nat) (hk : 80 ≤ k) : headgateref01_TakeText.f k (bs l) m = some (textR (ttext l m)) := by
  unfold headgateref01_TakeText.f
  rw [take_f l h k hk, Option.bind_some]
  exact text_core l m
def ptext (l : List UInt8) : List UInt8 := enc (l.length : Int) ++ l
theorem ptext_len (l : List UInt8) : (ptext l).length ≤ l.length + 10 := by have := (enc_len (l.length : Int)).2; unfold ptext; rw [List.length_append]; omega
theorem putText_eq (l : List UInt8) (h : l.length ≤ 9223372036854775000) : varint_PutText.f (bs l) = some (bs (ptext l)) := by
  have := (enc_len (l.length : Int)).2
  unfold varint_PutText.f ptext
  rw [size_bs, put_eq (len_i64 (by omega)), Option.bind_some, if_pos (by rw [size_bs]; omega), append_bs]
theorem rtext_eq (l : List UInt8) (h : l.length ≤ 9223372036854775000) (k : Nat) (hk : 12 ≤ k) : headgateref01_Text.f k (bs l) = some (bs (ptext l)) := by
  have := (enc_len (l.length : Int)).2
  unfold headgateref01_Text.f ptext
  rw [size_bs, put_f _ (len_i64 (by omega)) k hk, Option.bind_some, if_pos (by rw [size_bs]; omega), append_bs]
theorem ttext_ptext (l r : List UInt8) (h : l.length ≤ 9223372036854775000) (m : Int) (hm : (l.length : Int) ≤ m) : ttext (ptext l ++ r) m = some (l, r) := by
  unfold ttext ptext
  rw [List.append_assoc, dec_enc (len_i64 (by omega)), Option.bind_some]
  simp only
  rw [if_neg (by rw [List.length_append]; omega), Int.toNat_natCast, List.take_left, List.drop_left]
/-- What is a text's with which bytes begin: they are its bytes, and what is behind it. -/
theorem ttext_some {l a b : List UInt8} {m : Int} (h : ttext l m = some (a, b)) : l = ptext a ++ b ∧ (a.length : Int) ≤ m := by
  unfold ttext at h
  cases hd : dec l with
  | none => rw [hd] at h; cases h
  | some p =>
    obtain ⟨n, r⟩ := p
    rw [hd, Option.bind_some] at h
    simp only at h
    split at h
    · cases h
    · rename_i hc
      simp only [Option.some.injEq, Prod.mk.injEq] at h
      obtain ⟨rfl, rfl⟩ := h
      obtain ⟨rfl, hn⟩ := (dec_iff _ _ _).1 hd
      have hl : ((r.take n.toNat).length : Int) = n := by rw [List.length_take]; omega
      unfold ptext
      rw [hl, List.append_assoc, List.take_append_drop]
      exact ⟨rfl, by omega⟩
/-- So many numbers, with which bytes begin. -/
def decN : Nat → List UInt8 → Option (List Int × List UInt8)
  | 0, l => some ([], l)
  | n + 1, l => (dec l).bind fun p => (decN n p.2).map fun q => (p.1 :: q.1, q.2)
theorem decN_iff (n : Nat) : ∀ (l : List UInt8) (xs : List Int) (r : List UInt8), decN n l = some (xs, r) ↔ l = xs.flatMap enc ++ r ∧ xs.length = n ∧ ∀ x ∈ xs, I64 x := by
  induction n with
  | zero =>
    intro l xs r
    simp only [decN, Option.some.injEq, Prod.mk.injEq]
    constructor
    · rintro ⟨rfl, rfl⟩; simp
    · rintro ⟨h1, h2, -⟩
      obtain rfl := List.eq_nil_of_length_eq_zero h2
      simp at h1
      exact ⟨rfl, h1⟩
  | succ n ih =>
    intro l xs r
    simp only [decN, Option.bind_eq_some_iff, Option.map_eq_some_iff, Prod.exists, Prod.mk.injEq]
    constructor
    · rintro ⟨x, l', hd, ys, r', hn, rfl, rfl⟩
      obtain ⟨rfl, hx⟩ := (dec_iff _ _ _).1 hd
      obtain ⟨rfl, hl, hall⟩ := (ih _ _ _).1 hn
      refine ⟨by simp, by simp [hl], fun y hy => ?_⟩
      rcases List.mem_cons.1 hy with rfl | hy
      · exact hx
      · exact hall y hy
    · rintro ⟨rfl, h2, h3⟩
      cases xs with
      | nil => simp at h2
      | cons x ys =>
        have hx := h3 x (List.mem_cons_self ..)
        refine ⟨x, ys.flatMap enc ++ r, ?_, ys, r, (ih _ _ _).2 ⟨rfl, by simpa using h2, fun y hy => h3 y (List.mem_cons_of_mem _ hy)⟩, rfl, rfl⟩
        rw [List.flatMap_cons, List.append_assoc]
        exact dec_enc hx _
def allR : Option (List Int × List UInt8) → List Int × ByteArray × Int
  | some (a, b) => (a, bs b, 0)
  | none => ([], bs [], 2)
/-- What TakeAll tells. -/
def takeAllR (l : List UInt8) (n : Int) : List Int × ByteArray × Int := if n < 0 ∨ n > 64 then ([], bs [], 1) else allR (decN n.toNat l)
theorem takeAll_l0 (d : Nat) : ∀ (l : List UInt8) (acc : List Int) (n i : Int) (k : Nat), l.length ≤ 9223372036854775800 → 0 ≤ i → i ≤ n → n ≤ 64 → n - i = d → d < k → acc.length ≤ 64 - d →
    varint_TakeAll.l0 k (bs l) acc n i = some (allR ((decN d l).map fun q => (acc ++ q.1, q.2))) := by
  induction d with
  | zero =>
    intro l acc n i k hl h0 h1 h64 hd hk ha
    obtain ⟨k, rfl⟩ : ∃ m, k = m + 1 := ⟨k - 1, by omega⟩
    rw [varint_TakeAll.l0, if_neg (by omega)]
    simp [decN, allR]
  | succ d ih =>
    intro l acc n i k hl h0 h1 h64 hd hk ha
    obtain ⟨k, rfl⟩ : ∃ m, k = m + 1 := ⟨k - 1, by omega⟩
    rw [varint_TakeAll.l0, if_pos (by omega), take_eq l (by omega), Option.bind_some]
    cases hdc : dec l with
    | none =>
      rw [takeR_n3, if_neg (by decide)]
      simp only [decN, hdc]
      rfl
    | some p =>
      obtain ⟨x, r⟩ := p
      have hr := (dec_iff _ _ _).1 hdc
      have hrl : r.length ≤ l.length := by rw [hr.1, List.length_append]; omega
      rw [takeR_1, takeR_2, takeR_3, if_pos rfl, if_pos (by omega), w64 (by omega) (by omega), ih r (acc ++ [x]) n (i + 1) k (by omega) (by omega) (by omega) h64 (by omega) (by omega) (by rw [List.length_append, List.length_singleton]; omega)]
      simp only [decN, hdc, Option.bind_some, Option.map_map]
      congr 2
      cases decN d r <;> simp
theorem rtakeAll_l0 (d : Nat) : ∀ (l : List UInt8) (acc : List Int) (n i : Int) (k : Nat), l.length ≤ 9223372036854775800 → 0 ≤ i → i ≤ n → n ≤ 64 → n - i = d → d + 80 < k → acc.length ≤ 64 - d →
    headgateref01_TakeAll.l0 k (bs l) n acc i = some (allR ((decN d l).map fun q => (acc ++ q.1, q.2))) := by
  induction d with
  | zero =>
    intro l acc n i k hl h0 h1 h64 hd hk ha
    obtain ⟨k, rfl⟩ : ∃ m, k = m + 1 := ⟨k - 1, by omega⟩
    rw [headgateref01_TakeAll.l0, if_neg (by omega)]
    simp [decN, allR]
  | succ d ih =>
    intro l acc n i k hl h0 h1 h64 hd hk ha
    obtain ⟨k, rfl⟩ : ∃ m, k = m + 1 := ⟨k - 1, by omega⟩
    rw [headgateref01_TakeAll.l0, if_pos (by omega), take_f l (by omega) k (by omega), Option.bind_some]
    cases hdc : dec l with
    | none =>
      rw [takeR_n3, if_neg (by decide)]
      simp only [decN, hdc]
      rfl
    | some p =>
      obtain ⟨x, r⟩ := p
      have hr := (dec_iff _ _ _).1 hdc
      have hrl : r.length ≤ l.length := by rw [hr.1, List.length_append]; omega
      rw [takeR_1, takeR_2, takeR_3, if_pos rfl, if_pos (by omega), w64 (by omega) (by omega), ih r (acc ++ [x]) n (i + 1) k (by omega) (by omega) (by omega) h64 (by omega) (by omega) (by rw [List.length_append, List.length_singleton]; omega)]
      simp only [decN, hdc, Option.bind_some, Option.map_map]
      congr 2
      cases decN d r <;> simp
theorem takeAll_eq (l : List UInt8) (hl : l.length ≤ 9223372036854775800) (n : Int) (k : Nat) (hk : 200 ≤ k) : varint_TakeAll.f k (bs l) n = some (takeAllR l n) := by
  obtain ⟨k, rfl⟩ : ∃ m, k = m + 1 := ⟨k - 1, by omega⟩
  unfold varint_TakeAll.f takeAllR
  rw [varint_TakeAll.j0, if_pos rfl, varint_TakeAll.j0]
  by_cases h0 : n < 0
  · rw [if_pos h0, if_pos (.inl h0)]; rfl
  · rw [if_neg h0]
    by_cases h1 : n > 64
    · rw [if_pos (decide_eq_true h1), if_pos (.inr h1)]; rfl
    · rw [if_neg (by rw [decide_eq_true_eq]; exact h1), if_neg (by omega), takeAll_l0 n.toNat l [] n 0 k hl (by omega) (by omega) (by omega) (by omega) (by omega) (by simp)]
      congr 2
      cases decN n.toNat l <;> simp
theorem rtakeAll_eq (l : List UInt8) (hl : l.length ≤ 9223372036854775800) (n : Int) (k : Nat) (hk : 200 ≤ k) : headgateref01_TakeAll.f k (bs l) n = some (takeAllR l n) := by
  obtain ⟨k, rfl⟩ : ∃ m, k = m + 1 := ⟨k - 1, by omega⟩
  unfold headgateref01_TakeAll.f takeAllR
  rw [headgateref01_TakeAll.j0, if_pos rfl, headgateref01_TakeAll.j0]
  by_cases h0 : n < 0
  · rw [if_pos h0, if_pos (.inl h0)]; rfl
  · rw [if_neg h0]
    by_cases h1 : n > 64
    · rw [if_pos (decide_eq_true h1), if_pos (.inr h1)]; rfl
    · rw [if_neg (by rw [decide_eq_true_eq]; exact h1), if_neg (by omega), rtakeAll_l0 n.toNat l [] n 0 k hl (by omega) (by omega) (by omega) (by omega) (by omega) (by simp)]
      congr 2
      cases decN n.toNat l <;> simp
theorem putAll_eq (l : List Int) (hl : l.length ≤ 1099511627776) (h : ∀ x ∈ l, I64 x) : varint_PutAll.f l = some (bs (l.flatMap enc)) := if_pos ⟨hl, h⟩
end Go.Proofs.Ythmckblcckcaaaa.Vp
set_option linter.unusedVariables false
set_option linter.unusedSimpArgs false
namespace Go.Proofs.Ythmckblcckcaaaa.Bt
open Go.RowKit Go.Proofs.Ythmckblcckcaaaa.Vm Go.Proofs.Ythmckblcckcaaaa.Vref Go.Proofs.Ythmckblcckcaaaa.Vp Go.Proofs.Ythmckblcckcaaaa.P Go.Proofs.YthmckblcckcaaaaW.PrintWords Go.Proofs.YthmckblcckcaaaaW.PrintLast
def mayR (x : S31) : Bool := decide (0 ≤ x.f0 ∧ x.f0 ≤ 1048576 ∧ 0 ≤ x.f1 ∧ x.f1 ≤ 1099511627776 ∧ (x.f2.size : Int) ≤ 512)
theorem mayR_iff {x : S31} : mayR x = true ↔ (0 ≤ x.f0 ∧ x.f0 ≤ 1048576 ∧ 0 ≤ x.f1 ∧ x.f1 ≤ 1099511627776 ∧ (x.f2.size : Int) ≤ 512) := by unfold mayR; exact decide_eq_true_iff
theorem may_eq (x : S31) : batch_may.f x.f0 x.f1 x.f2 = some (mayR x) := by
  unfold batch_may.f batch_within.f
  rw [Option.bind_some]
  have h2 : ([x.f0, x.f1].any batch_within.p) = decide ((x.f0 < 0 ∨ x.f0 > 1099511627776) ∨ (x.f1 < 0 ∨ x.f1 > 1099511627776)) := by
    rw [Bool.decide_or]
    show (batch_within.p x.f0 || (batch_within.p x.f1 || false)) = _
    rw [Bool.or_false]
    rfl
  rw [h2]
  by_cases c : (x.f0 < 0 ∨ x.f0 > 1099511627776) ∨ (x.f1 < 0 ∨ x.f1 > 1099511627776)
  · rw [decide_eq_true c, if_neg (by decide)]
    refine congrArg some (Bool.eq_false_iff.2 fun h => ?_).symm
    rw [mayR_iff] at h; omega
  · rw [decide_eq_false c, if_pos (show (!false) = true from rfl)]
    by_cases c2 : x.f0 ≤ 1048576
    · rw [if_pos c2]
      refine congrArg some (decide_eq_decide.mpr ⟨fun h => ⟨by omega, by omega, by omega, by omega, h⟩, fun h => h.2.2.2.2⟩)
    · rw [if_neg c2]
      refine congrArg some (Bool.eq_false_iff.2 fun h => ?_).symm
      rw [mayR_iff] at h; omega
theorem rmay_eq (x : S31) : headgateref06_MayRecord.f x.f0 x.f1 x.f2 = some (mayR x) := by
  unfold headgateref06_MayRecord.f headgateref06_In.f
  have no : ¬ (0 ≤ x.f0 ∧ x.f0 ≤ 1048576 ∧ 0 ≤ x.f1 ∧ x.f1 ≤ 1099511627776 ∧ (x.f2.size : Int) ≤ 512) → some false = some (mayR x) := fun h => by
    refine congrArg some (Bool.eq_false_iff.2 fun h' => h (mayR_iff.1 h')).symm
  by_cases c0 : x.f0 ≥ 0
  · rw [if_pos c0]
    by_cases c1 : x.f0 ≤ 1048576
    · rw [if_pos c1]
      by_cases c2 : x.f1 ≥ 0
      · rw [if_pos c2, Option.bind_some]
        by_cases c3 : x.f1 ≤ 1099511627776
        · rw [decide_eq_true c3, if_pos rfl]
          refine congrArg some (decide_eq_decide.mpr ⟨fun h => ⟨by omega, by omega, by omega, by omega, h⟩, fun h => h.2.2.2.2⟩)
        · rw [decide_eq_false c3, if_neg (by decide)]; exact no (by omega)
      · rw [if_neg c2, Option.bind_some, if_neg (by decide)]; exact no (by omega)
    · rw [if_neg c1]; exact no (by omega)
  · rw [if_neg c0]; exact no (by omega)
theorem rd_at (s : List S31) (j : Nat) (h : j < s.length) : rd_T31 s (j : Int) = s[j] := by
  unfold rd_T31
  rw [Int.toNat_natCast, List.getD_eq_getElem?_getD, List.getElem?_eq_getElem h]
  rfl
/-- What a kind asks of a batch that is good else. -/
def mayK (k p e s : Int) (n : Nat) : Bool :=
  decide ((k = 1 ∧ 0 < n ∧ ((p = 0 ∧ e = 0 ∧ s = 0) ∨ (p > 0 ∧ e > 0))) ∨ (k = 2 ∧ 0 < n ∧ p > 0 ∧ e > 0) ∨ ((k = 3 ∨ k = 4) ∧ n = 0 ∧ p > 0 ∧ e > 0 ∧ s = 0))
def mayH (p e s : Int) : Bool := decide (0 ≤ p ∧ p ≤ 8 ∧ 0 ≤ e ∧ e ≤ 1099511627776 ∧ 0 ≤ s ∧ s ≤ 1099511627776)
def mayB (k p e s : Int) (l : List S31) : Bool := mayH p e s && decide (l.length ≤ 64) && l.all mayR && mayK k p e s l.length
theorem j4_eq (k : Nat) (a b : Bool) (kd p e s : Int) (l : List S31) (c : Bool) (hk : 0 < k) : batch_Check.j4 k a b c kd p e s l = some (if (c && a && decide (l.length = 0) && b && decide (s = 0)) = true then 0 else 1) := by
  obtain ⟨k, rfl⟩ : ∃ m, k = m + 1 := ⟨k - 1, by omega⟩
  rw [batch_Check.j4]
  cases c <;> cases a <;> cases b <;> by_cases h1 : l.length = 0 <;> by_cases h2 : s = 0 <;> simp [h1, h2]
theorem j3_eq (k : Nat) (a n y : Bool) (kd p e s : Int) (l : List S31) (hk : 1 < k) : batch_Check.j3 k a n y kd p e s l = some (if (a && ((decide (kd = 1) && decide (0 < l.length) && (n || y)) || (decide (kd = 2) && decide (0 < l.length) && y) || ((decide (kd = 3) || decide (kd = 4)) && decide (l.length = 0) && y && decide (s = 0)))) = true then 0 else 1) := by
  obtain ⟨k, rfl⟩ : ∃ m, k = m + 1 := ⟨k - 1, by omega⟩
  rw [batch_Check.j3]
  have hl : ((l.length : Int) > 0) = (0 < l.length) := by apply propext; omega
  by_cases k1 : kd = 1
  · subst k1; simp only [hl, if_true]
    cases a <;> cases n <;> cases y <;> by_cases h1 : 0 < l.length <;> simp [h1]
  · by_cases k2 : kd = 2
    · subst k2; simp only [hl]
      cases a <;> cases n <;> cases y <;> by_cases h1 : 0 < l.length <;> simp [h1]
    · rw [if_neg k1, if_neg k2]
      by_cases k3 : kd = 3
      · subst k3; rw [if_pos rfl, j4_eq _ _ _ _ _ _ _ _ _ (by omega)]
        cases a <;> cases y <;> by_cases h1 : l.length = 0 <;> by_cases h2 : s = 0 <;> simp [h1, h2]
      · rw [if_neg k3, j4_eq _ _ _ _ _ _ _ _ _ (by omega)]
        by_cases k4 : kd = 4
        · subst k4
          cases a <;> cases y <;> by_cases h1 : l.length = 0 <;> by_cases h2 : s = 0 <;> simp [h1, h2]
        · have : (kd == 4) = false := by simpa using k4
          rw [this]; simp [k1, k2, k3, k4]
theorem mayK_eq (k p e s : Int) (n : Nat) : mayK k p e s n = ((decide (k = 1) && decide (0 < n) && (decide (p = 0 ∧ e = 0 ∧ s = 0) || decide (p > 0 ∧ e > 0))) || (decide (k = 2) && decide (0 < n) && decide (p > 0 ∧ e > 0)) || ((decide (k = 3) || decide (k = 4)) && decide (n = 0) && decide (p > 0 ∧ e > 0) && decide (s = 0))) := by
  unfold mayK
  simp only [Bool.decide_and, Bool.decide_or, Bool.and_assoc, Bool.or_assoc]
theorem j2_eq (k : Nat) (a n : Bool) (kd p e s : Int) (l : List S31) (hk : 2 < k) : batch_Check.j2 k a n kd p e s l = batch_Check.j3 (k - 1) a n (decide (p > 0 ∧ e > 0)) kd p e s l := by
  obtain ⟨k, rfl⟩ : ∃ m, k = m + 1 := ⟨k - 1, by omega⟩
  rw [batch_Check.j2]
  by_cases h1 : p > 0
  · rw [if_pos h1]; simp [h1]
  · rw [if_neg h1]; simp [h1]
theorem check_l0 (kd p e s : Int) (l : List S31) (hl : l.length ≤ 9223372036854775807) (d : Nat) : ∀ (j k : Nat) (a : Bool), l.length - j = d → j ≤ l.length → d + 5 < k →
    batch_Check.l0 k a l (l.length : Int) (j : Int) kd p e s l = some (if (a && (l.drop j).all mayR && mayK kd p e s l.length) = true then 0 else 1) := by
  induction d with
  | zero =>
    intro j k a hd hj hk
    obtain ⟨k, rfl⟩ : ∃ m, k = m + 1 := ⟨k - 1, by omega⟩
    have hf : (if p = 0 then (if e = 0 then (batch_Check.j2 k a (s == 0) kd p e s l) else (batch_Check.j2 k a false kd p e s l)) else (batch_Check.j2 k a false kd p e s l)) = batch_Check.j2 k a (decide (p = 0 ∧ e = 0 ∧ s = 0)) kd p e s l := by
      by_cases h1 : p = 0
      · rw [if_pos h1]
        by_cases h2 : e = 0
        · rw [if_pos h2]; congr 1; by_cases h3 : s = 0 <;> simp [h1, h2, h3]
        · rw [if_neg h2]; congr 1; simp [h2]
      · rw [if_neg h1]; congr 1; simp [h1]
    rw [batch_Check.l0, if_neg (by omega), hf, j2_eq _ _ _ _ _ _ _ _ (by omega), j3_eq _ _ _ _ _ _ _ _ _ (by omega), ← mayK_eq, List.drop_of_length_le (by omega)]
    simp
  | succ d ih =>
    intro j k a hd hj hk
    obtain ⟨k, rfl⟩ : ∃ m, k = m + 1 := ⟨k - 1, by omega⟩
    have hjl : j < l.length := by omega
    have e1 : wrap64 ((j : Int) + 1) = ((j + 1 : Nat) : Int) := by rw [w64 (by omega) (by omega)]; omega
    rw [batch_Check.l0, if_pos (by omega), if_pos (by omega), if_pos (by omega), rd_at l j hjl, may_eq, Option.bind_some, e1, List.drop_eq_getElem_cons hjl]
    cases a with
    | true =>
      rw [if_pos rfl, ih (j + 1) k _ (by omega) (by omega) (by omega), List.all_cons, Bool.true_and]
    | false =>
      rw [if_neg (by decide), ih (j + 1) k _ (by omega) (by omega) (by omega), Bool.false_and, Bool.false_and, Bool.false_and, Bool.false_and]
theorem check_eq (kd p e s : Int) (l : List S31) (hl : l.length ≤ 9223372036854775807) (k : Nat) (hk : l.length + 7 < k) : batch_Check.f k kd p e s l = some (if mayB kd p e s l = true then 0 else 1) := by
  unfold batch_Check.f batch_within.f
  rw [Option.bind_some]
  have j0 : ∀ a, batch_Check.j0 k a kd p e s l = some (if (a && l.all mayR && mayK kd p e s l.length) = true then 0 else 1) := fun a => by
    obtain ⟨k, rfl⟩ : ∃ m, k = m + 1 := ⟨k - 1, by omega⟩
    rw [batch_Check.j0]
    exact check_l0 kd p e s l hl l.length 0 k a (by omega) (by omega) (by omega)
  rw [j0, j0]
  have h3 : (!([p, e, s].any batch_within.p)) = decide (0 ≤ p ∧ p ≤ 1099511627776 ∧ 0 ≤ e ∧ e ≤ 1099511627776 ∧ 0 ≤ s ∧ s ≤ 1099511627776) := by
    show (!(batch_within.p p || (batch_within.p e || (batch_within.p s || false)))) = _
    rw [Bool.or_false]
    unfold batch_within.p
    rw [← Bool.decide_or, ← Bool.decide_or, ← decide_not]
    exact decide_eq_decide.mpr (by omega)
  rw [h3]
  unfold mayB mayH
  have hlen : decide ((l.length : Int) ≤ 64) = decide (l.length ≤ 64) := decide_eq_decide.mpr (by omega)
  by_cases c : 0 ≤ p ∧ p ≤ 1099511627776 ∧ 0 ≤ e ∧ e ≤ 1099511627776 ∧ 0 ≤ s ∧ s ≤ 1099511627776
  · rw [decide_eq_true c, if_pos rfl, hlen]
    by_cases c2 : p ≤ 8
    · rw [if_pos c2, decide_eq_true (show 0 ≤ p ∧ p ≤ 8 ∧ 0 ≤ e ∧ e ≤ 1099511627776 ∧ 0 ≤ s ∧ s ≤ 1099511627776 by omega), Bool.true_and]
    · rw [if_neg c2, decide_eq_false (show ¬ (0 ≤ p ∧ p ≤ 8 ∧ 0 ≤ e ∧ e ≤ 1099511627776 ∧ 0 ≤ s ∧ s ≤ 1099511627776) by omega), Bool.false_and, Bool.false_and, Bool.false_and, Bool.false_and, Bool.false_and]
  · rw [decide_eq_false c, if_neg (by decide), decide_eq_false (show ¬ (0 ≤ p ∧ p ≤ 8 ∧ 0 ≤ e ∧ e ≤ 1099511627776 ∧ 0 ≤ s ∧ s ≤ 1099511627776) by omega), Bool.false_and, Bool.false_and, Bool.false_and, Bool.false_and, Bool.false_and]
theorem rj3_eq (k : Nat) (y n : Bool) (kd p e s : Int) (l : List S31) (hk : 0 < k) : headgateref06_May.j3 k y n kd p e s l = some ((decide (kd = 1) && decide (0 < l.length) && (n || y)) || (decide (kd = 2) && decide (0 < l.length) && y) || ((decide (kd = 3) || decide (kd = 4)) && decide (l.length = 0) && y && decide (s = 0))) := by
  obtain ⟨k, rfl⟩ : ∃ m, k = m + 1 := ⟨k - 1, by omega⟩
  rw [headgateref06_May.j3]
  have hl : ((l.length : Int) > 0) = (0 < l.length) := by apply propext; omega
  have hl0 : ((l.length : Int) = 0) = (l.length = 0) := by apply propext; omega
  have hs : (s == 0) = decide (s = 0) := by by_cases h : s = 0 <;> simp [h]
  simp only [hl, hl0, hs]
  by_cases k1 : kd = 1
  · subst k1
    cases n <;> cases y <;> by_cases h1 : 0 < l.length <;> simp [h1]
  · by_cases k2 : kd = 2
    · subst k2
      cases n <;> cases y <;> by_cases h1 : 0 < l.length <;> simp [h1]
    · by_cases k3 : kd = 3
      · subst k3
        cases y <;> by_cases h1 : l.length = 0 <;> by_cases h2 : s = 0 <;> simp [h1, h2]
      · by_cases k4 : kd = 4
        · subst k4
          cases y <;> by_cases h1 : l.length = 0 <;> by_cases h2 : s = 0 <;> simp [h1, h2]
        · simp [k1, k2, k3, k4]
theorem rj2_eq (k : Nat) (y : Bool) (kd p e s : Int) (l : List S31) (hk : 1 < k) : headgateref06_May.j2 k y kd p e s l = headgateref06_May.j3 (k - 1) y (decide (p = 0 ∧ e = 0 ∧ s = 0)) kd p e s l := by
  obtain ⟨k, rfl⟩ : ∃ m, k = m + 1 := ⟨k - 1, by omega⟩
  rw [headgateref06_May.j2]
  by_cases h1 : p = 0
  · rw [if_pos h1]
    by_cases h2 : e = 0
    · rw [if_pos h2]; congr 1; by_cases h3 : s = 0 <;> simp [h1, h2, h3]
    · rw [if_neg h2]; congr 1; simp [h2]
  · rw [if_neg h1]; congr 1; simp [h1]
theorem rmay_l0 (kd p e s : Int) (l : List S31) (hl : l.length ≤ 9223372036854775807) (d : Nat) : ∀ (j k : Nat), l.length - j = d → j ≤ l.length → d + 4 < k →
    headgateref06_May.l0 k (j : Int) kd p e s l = some ((l.drop j).all mayR && mayK kd p e s l.length) := by
  induction d with
  | zero =>
    intro j k hd hj hk
    obtain ⟨k, rfl⟩ : ∃ m, k = m + 1 := ⟨k - 1, by omega⟩
    have hf : (if p > 0 then (headgateref06_May.j2 k (decide (e > 0)) kd p e s l) else (headgateref06_May.j2 k false kd p e s l)) = headgateref06_May.j2 k (decide (p > 0 ∧ e > 0)) kd p e s l := by
      by_cases h1 : p > 0
      · rw [if_pos h1]; simp [h1]
      · rw [if_neg h1]; simp [h1]
    rw [headgateref06_May.l0, if_neg (by omega), hf, rj2_eq _ _ _ _ _ _ _ (by omega), rj3_eq _ _ _ _ _ _ _ _ (by omega), ← mayK_eq, List.drop_of_length_le (by omega)]
    simp
  | succ d ih =>
    intro j k hd hj hk
    obtain ⟨k, rfl⟩ : ∃ m, k = m + 1 := ⟨k - 1, by omega⟩
    have hjl : j < l.length := by omega
    have e1 : wrap64 ((j : Int) + 1) = ((j + 1 : Nat) : Int) := by rw [w64 (by omega) (by omega)]; omega
    rw [headgateref06_May.l0, if_pos (by omega), if_pos (by omega), rd_at l j hjl, rmay_eq, Option.bind_some, e1, List.drop_eq_getElem_cons hjl, List.all_cons]
    cases hm : mayR l[j] with
    | true => rw [if_pos rfl, ih (j + 1) k (by omega) (by omega) (by omega), Bool.true_and]
    | false => rw [if_neg (by decide), Bool.false_and, Bool.false_and]
theorem rMay_eq (kd p e s : Int) (l : List S31) (hl : l.length ≤ 9223372036854775807) (k : Nat) (hk : l.length + 7 < k) : headgateref06_May.f k kd p e s l = some (mayB kd p e s l) := by
  obtain ⟨k, rfl⟩ : ∃ m, k = m + 1 := ⟨k - 1, by omega⟩
  have jt : headgateref06_May.j0 (k + 1) true kd p e s l = some false := by rw [headgateref06_May.j0, if_pos rfl]
  have hin : ∀ n, headgateref06_In.f n = some (decide (0 ≤ n ∧ n ≤ 1099511627776)) := fun n => by
    unfold headgateref06_In.f
    by_cases h : n ≥ 0
    · rw [if_pos h]; exact congrArg some (decide_eq_decide.mpr (by omega))
    · rw [if_neg h]; exact congrArg some (decide_eq_false (by omega)).symm
  have nop : mayH p e s = false → some false = some (mayB kd p e s l) := fun h => by unfold mayB; rw [h]; rfl
  have noh : ¬ (0 ≤ p ∧ p ≤ 8 ∧ 0 ≤ e ∧ e ≤ 1099511627776 ∧ 0 ≤ s ∧ s ≤ 1099511627776) → some false = some (mayB kd p e s l) := fun h => nop (decide_eq_false h)
  unfold headgateref06_May.f
  rw [hin, Option.bind_some]
  by_cases c1 : 0 ≤ p ∧ p ≤ 1099511627776
  · rw [decide_eq_true c1, if_pos rfl]
    by_cases c2 : p > 8
    · rw [if_pos c2, jt]; exact noh (by omega)
    · rw [if_neg c2, hin, Option.bind_some]
      by_cases c3 : 0 ≤ e ∧ e ≤ 1099511627776
      · rw [decide_eq_true c3, if_pos rfl, hin, Option.bind_some]
        by_cases c4 : 0 ≤ s ∧ s ≤ 1099511627776
        · rw [decide_eq_true c4, if_pos rfl, headgateref06_May.j0]
          have hH : mayH p e s = true := decide_eq_true (by omega)
          unfold mayB
          rw [hH, Bool.true_and]
          by_cases c5 : (l.length : Int) > 64
          · rw [if_pos (decide_eq_true c5), decide_eq_false (show ¬ l.length ≤ 64 by omega)]; rfl
          · have := rmay_l0 kd p e s l hl l.length 0 k (by omega) (by omega) (by omega)
            rw [if_neg (by rw [decide_eq_true_eq]; exact c5), decide_eq_true (show l.length ≤ 64 by omega), Bool.true_and]
            exact this
        · rw [decide_eq_false c4, if_neg (by decide), jt]; exact noh (by omega)
      · rw [decide_eq_false c3, if_neg (by decide), jt]; exact noh (by omega)
  · rw [decide_eq_false c1, if_neg (by decide), jt]; exact noh (by omega)
theorem light_l0 (kd p e s : Int) (l : List S31) (hl : l.length ≤ 9223372036854775807) (d : Nat) : ∀ (j k : Nat), l.length - j = d → j ≤ l.length → d < k →
    headgatelaw06_Light.l0 k (j : Int) kd p e s l = some ((l.drop j).all fun x => decide ((x.f2.size : Int) ≤ 1000)) := by
  induction d with
  | zero =>
    intro j k hd hj hk
    obtain ⟨k, rfl⟩ : ∃ m, k = m + 1 := ⟨k - 1, by omega⟩
    rw [headgatelaw06_Light.l0, if_neg (by omega), List.drop_of_length_le (by omega)]
    rfl
  | succ d ih =>
    intro j k hd hj hk
    obtain ⟨k, rfl⟩ : ∃ m, k = m + 1 := ⟨k - 1, by omega⟩
    have hjl : j < l.length := by omega
    have e1 : wrap64 ((j : Int) + 1) = ((j + 1 : Nat) : Int) := by rw [w64 (by omega) (by omega)]; omega
    rw [headgatelaw06_Light.l0, if_pos (by omega), if_pos (by omega), rd_at l j hjl, e1, List.drop_eq_getElem_cons hjl, List.all_cons]
    by_cases c : (l[j].f2.size : Int) > 1000
    · rw [if_pos c, decide_eq_false (by omega)]; rfl
    · rw [if_neg c, ih (j + 1) k (by omega) (by omega) (by omega), decide_eq_true (by omega), Bool.true_and]
def light (l : List S31) : Bool := decide (l.length ≤ 70) && l.all fun x => decide ((x.f2.size : Int) ≤ 1000)
theorem light_eq (kd p e s : Int) (l : List S31) (hl : l.length ≤ 9223372036854775807) (k : Nat) (hk : l.length < k) : headgatelaw06_Light.f k kd p e s l = some (light l) := by
  unfold headgatelaw06_Light.f light
  by_cases c : (l.length : Int) > 70
  · rw [if_pos c, decide_eq_false (by omega)]; rfl
  · rw [if_neg c, decide_eq_true (by omega), Bool.true_and]
    exact light_l0 kd p e s l hl l.length 0 k (by omega) (by omega) hk
end Go.Proofs.Ythmckblcckcaaaa.Bt
set_option linter.unusedVariables false
set_option linter.unusedSimpArgs false
namespace Go.Proofs.Ythmckblcckcaaaa.Be
open Go.RowKit Go.Proofs.Ythmckblcckcaaaa.Vm Go.Proofs.Ythmckblcckcaaaa.Vref Go.Proofs.Ythmckblcckcaaaa.Vp Go.Proofs.Ythmckblcckcaaaa.Bt Go.Proofs.Ythmckblcckcaaaa.P Go.Proofs.YthmckblcckcaaaaW.PrintWords Go.Proofs.YthmckblcckcaaaaW.PrintLast
def encR (x : S31) : List UInt8 := enc x.f0 ++ enc x.f1 ++ ptext x.f2.data.toList
def encB (kd p e s : Int) (l : List S31) : List UInt8 := [kd, p, e, s, (l.length : Int)].flatMap enc ++ l.flatMap encR
theorem encR_len (x : S31) : (encR x).length ≤ x.f2.size + 30 := by
  have h1 := (enc_len x.f0).2
  have h2 := (enc_len x.f1).2
  have h3 := ptext_len x.f2.data.toList
  have h4 : x.f2.data.toList.length = x.f2.size := by simp
  unfold encR
  rw [List.length_append, List.length_append]
  omega
theorem mayR_i64 {x : S31} (h : mayR x = true) : I64 x.f0 ∧ I64 x.f1 ∧ x.f2.size ≤ 512 := by
  rw [mayR_iff] at h
  unfold I64
  omega
theorem put2 (x : S31) (h0 : I64 x.f0) (h1 : I64 x.f1) (h2 : x.f2.size ≤ 9000000000000000000) : batch_PutRecord.f x.f0 x.f1 x.f2 = some (bs (encR x)) := by
  have e1 := (enc_len x.f0).2
  have e2 := (enc_len x.f1).2
  have e3 := ptext_len x.f2.data.toList
  have e4 : x.f2.data.toList.length = x.f2.size := by simp
  have hp := putText_eq x.f2.data.toList (by omega)
  rw [bs_data] at hp
  unfold batch_PutRecord.f
  rw [putAll_eq [x.f0, x.f1] (by simp) (fun y hy => by rcases List.mem_cons.1 hy with rfl | hy; exact h0; rcases List.mem_cons.1 hy with rfl | hy; exact h1; cases hy), Option.bind_some, hp, Option.bind_some]
  have hf : [x.f0, x.f1].flatMap enc = enc x.f0 ++ enc x.f1 := by simp
  rw [hf, if_pos (by rw [size_bs, size_bs, List.length_append]; omega), append_bs]
  rfl
theorem rrec2 (x : S31) (h0 : I64 x.f0) (h1 : I64 x.f1) (h2 : x.f2.size ≤ 9000000000000000000) (k : Nat) (hk : 20 ≤ k) : headgateref06_Record.f k x.f0 x.f1 x.f2 = some (bs (encR x)) := by
  have e1 := (enc_len x.f0).2
  have e2 := (enc_len x.f1).2
  have e3 := ptext_len x.f2.data.toList
  have e4 : x.f2.data.toList.length = x.f2.size := by simp
  have hp := rtext_eq x.f2.data.toList (by omega) k (by omega)
  rw [bs_data] at hp
  unfold headgateref06_Record.f
  rw [put_f _ h0 k (by omega), Option.bind_some, put_f _ h1 k (by omega), Option.bind_some, if_pos (by rw [size_bs, size_bs]; omega), hp, Option.bind_some, append_bs, if_pos (by rw [size_bs, size_bs, List.length_append]; omega), append_bs]
  rfl
theorem mayB_iff {kd p e s : Int} {l : List S31} : mayB kd p e s l = true ↔ mayH p e s = true ∧ l.length ≤ 64 ∧ (∀ x ∈ l, mayR x = true) ∧ mayK kd p e s l.length = true := by
  unfold mayB
  rw [Bool.and_eq_true, Bool.and_eq_true, Bool.and_eq_true, decide_eq_true_eq, List.all_eq_true]
  exact ⟨fun ⟨⟨⟨a, b⟩, c⟩, d⟩ => ⟨a, b, c, d⟩, fun ⟨a, b, c, d⟩ => ⟨⟨⟨a, b⟩, c⟩, d⟩⟩
theorem mayB_i64 {kd p e s : Int} {l : List S31} (h : mayB kd p e s l = true) : I64 kd ∧ I64 p ∧ I64 e ∧ I64 s ∧ I64 (l.length : Int) := by
  obtain ⟨h1, h2, h3, h4⟩ := mayB_iff.1 h
  unfold mayH at h1
  unfold mayK at h4
  rw [decide_eq_true_eq] at h1 h4
  unfold I64
  omega
theorem encRs_len (l : List S31) (h : ∀ x ∈ l, mayR x = true) : (l.flatMap encR).length ≤ 542 * l.length := by
  induction l with
  | nil => simp
  | cons x r ih =>
    have := ih fun y hy => h y (List.mem_cons_of_mem _ hy)
    have h1 := encR_len x
    have h2 := (mayR_i64 (h x (List.mem_cons_self ..))).2.2
    rw [List.flatMap_cons, List.length_append, List.length_cons]
    omega
theorem five_len (a b c d e : Int) : ([a, b, c, d, e].flatMap enc).length ≤ 50 := by
  have h1 := (enc_len a).2
  have h2 := (enc_len b).2
  have h3 := (enc_len c).2
  have h4 := (enc_len d).2
  have h5 := (enc_len e).2
  simp only [List.flatMap_cons, List.flatMap_nil, List.length_append, List.length_nil]
  omega
theorem encB_len {kd p e s : Int} {l : List S31} (h : mayB kd p e s l = true) : (encB kd p e s l).length ≤ 40000 := by
  obtain ⟨h1, h2, h3, h4⟩ := mayB_iff.1 h
  have := encRs_len l h3
  have := five_len kd p e s (l.length : Int)
  unfold encB
  rw [List.length_append]
  omega
theorem g_eq (l : List S31) (h : ∀ x ∈ l, mayR x = true) : batch_Encode.g l = some (l.flatMap encR) := by
  induction l with
  | nil => rfl
  | cons x r ih =>
    obtain ⟨h0, h1, h2⟩ := mayR_i64 (h x (List.mem_cons_self ..))
    rw [batch_Encode.g, put2 x h0 h1 (by omega), Option.bind_some, ih fun y hy => h y (List.mem_cons_of_mem _ hy), Option.bind_some, data_bs, List.flatMap_cons]
def encodeR (kd p e s : Int) (l : List S31) : ByteArray × Int := if mayB kd p e s l = true then (bs (encB kd p e s l), 0) else (bs [], 1)
theorem encode_eq (kd p e s : Int) (l : List S31) (hl : l.length ≤ 9223372036854775807) (k : Nat) (hk : l.length + 7 < k) : batch_Encode.f k kd p e s l = some (encodeR kd p e s l) := by
  unfold batch_Encode.f encodeR
  rw [check_eq kd p e s l hl k hk, Option.bind_some]
  by_cases h : mayB kd p e s l = true
  · obtain ⟨i1, i2, i3, i4, i5⟩ := mayB_i64 h
    obtain ⟨h1, h2, h3, h4⟩ := mayB_iff.1 h
    have hn := encB_len h
    unfold encB at hn
    rw [List.length_append] at hn
    rw [if_pos h, if_pos rfl, if_pos h, putAll_eq _ (by simp) (fun y hy => by
      rcases List.mem_cons.1 hy with rfl | hy; exact i1
      rcases List.mem_cons.1 hy with rfl | hy; exact i2
      rcases List.mem_cons.1 hy with rfl | hy; exact i3
      rcases List.mem_cons.1 hy with rfl | hy; exact i4
      rcases List.mem_cons.1 hy with rfl | hy; exact i5
      cases hy), Option.bind_some, g_eq l h3, Option.bind_some, if_pos (by rw [size_bs]; omega), data_bs]
    rfl
  · rw [if_neg h, if_neg (by decide), if_neg h]
    rfl
theorem rencode_l0 (kd p e s : Int) (l : List S31) (hl : l.length ≤ 64) (hm : ∀ x ∈ l, mayR x = true) (d : Nat) : ∀ (j k : Nat) (acc : List UInt8), l.length - j = d → j ≤ l.length → d + 25 < k → acc.length + 542 * d ≤ 1000000 →
    headgateref06_Encode.l0 k (bs acc) (j : Int) kd p e s l = some (bs (acc ++ (l.drop j).flatMap encR), 0) := by
  induction d with
  | zero =>
    intro j k acc hd hj hk ha
    obtain ⟨k, rfl⟩ : ∃ m, k = m + 1 := ⟨k - 1, by omega⟩
    rw [headgateref06_Encode.l0, if_neg (by omega), List.drop_of_length_le (by omega), List.flatMap_nil, List.append_nil]
  | succ d ih =>
    intro j k acc hd hj hk ha
    obtain ⟨k, rfl⟩ : ∃ m, k = m + 1 := ⟨k - 1, by omega⟩
    have hjl : j < l.length := by omega
    have e1 : wrap64 ((j : Int) + 1) = ((j + 1 : Nat) : Int) := by rw [w64 (by omega) (by omega)]; omega
    obtain ⟨h0, h1, h2⟩ := mayR_i64 (hm l[j] (List.getElem_mem hjl))
    have hx := encR_len l[j]
    rw [headgateref06_Encode.l0, if_pos (by omega), if_pos (by omega), rd_at l j hjl, rrec2 _ h0 h1 (by omega) k (by omega), Option.bind_some, if_pos (by rw [size_bs, size_bs]; omega), append_bs, e1, ih (j + 1) k _ (by omega) (by omega) (by omega) (by rw [List.length_append]; omega), List.drop_eq_getElem_cons hjl, List.flatMap_cons, List.append_assoc]
theorem rencode_eq (kd p e s : Int) (l : List S31) (hl : l.length ≤ 9223372036854775807) (k : Nat) (hk : l.length + 100 < k) : headgateref06_Encode.f k kd p e s l = some (encodeR kd p e s l) := by
  unfold headgateref06_Encode.f encodeR
  rw [rMay_eq kd p e s l hl k (by omega), Option.bind_some]
  by_cases h : mayB kd p e s l = true
  · obtain ⟨i1, i2, i3, i4, i5⟩ := mayB_i64 h
    obtain ⟨h1, h2, h3, h4⟩ := mayB_iff.1 h
    have n1 := (enc_len kd).2
    have n2 := (enc_len p).2
    have n3 := (enc_len e).2
    have n4 := (enc_len s).2
    have n5 := (enc_len (l.length : Int)).2
    rw [if_pos h, if_pos h, put_f _ i1 k (by omega), Option.bind_some, put_f _ i2 k (by omega), Option.bind_some, if_pos (by rw [size_bs, size_bs]; omega), append_bs, put_f _ i3 k (by omega), Option.bind_some, if_pos (by rw [size_bs, size_bs, List.length_append]; omega), append_bs, put_f _ i4 k (by omega), Option.bind_some, if_pos (by rw [size_bs, size_bs, List.length_append, List.length_append]; omega), append_bs, put_f _ i5 k (by omega), Option.bind_some, if_pos (by rw [size_bs, size_bs, List.length_append, List.length_append, List.length_append]; omega), append_bs]
    have := rencode_l0 kd p e s l h2 h3 l.length 0 k (enc kd ++ enc p ++ enc e ++ enc s ++ enc (l.length : Int)) (by omega) (by omega) (by omega) (by simp only [List.length_append]; omega)
    refine this.trans ?_
    unfold encB
    simp only [List.flatMap_cons, List.flatMap_nil, List.append_nil, List.append_assoc, List.drop_zero]
  · rw [if_neg h, if_neg h]
    rfl
theorem awake_eq (k : Nat) (hk : 20 < k) : headgatelaw06_awake.f k = some true := by
  unfold headgatelaw06_awake.f
  rw [encode_eq 3 1 2 0 [] (by decide) k (by simp; omega), Option.bind_some, encode_eq 1 0 0 0 _ (by decide) k (by simp; omega), Option.bind_some]
  have e1 : encodeR 3 1 2 0 [] = (bs [6, 2, 4, 0, 0], 0) := by decide
  have e2 : encodeR 1 0 0 0 [(⟨1, 2, (⟨#[97]⟩ : ByteArray)⟩ : S31)] = (bs [2, 0, 0, 0, 2, 2, 4, 2, 97], 0) := by
    have hm : mayB 1 0 0 0 [(⟨1, 2, (⟨#[97]⟩ : ByteArray)⟩ : S31)] = true := by decide
    unfold encodeR
    rw [if_pos hm]
    refine Prod.ext (bs_inj.2 ?_) rfl
    decide
  rw [e1, e2, if_pos (toList_bs _), if_pos rfl, if_pos (toList_bs _)]
  rfl
end Go.Proofs.Ythmckblcckcaaaa.Be
set_option linter.unusedVariables false
set_option linter.unusedSimpArgs false
namespace Go.Proofs.Ythmckblcckcaaaa.Bd
open Go.RowKit Go.Proofs.Ythmckblcckcaaaa.Vm Go.Proofs.Ythmckblcckcaaaa.Vref Go.Proofs.Ythmckblcckcaaaa.Vp Go.Proofs.Ythmckblcckcaaaa.Bt Go.Proofs.Ythmckblcckcaaaa.Be Go.Proofs.Ythmckblcckcaaaa.P Go.Proofs.YthmckblcckcaaaaW.PrintWords Go.Proofs.YthmckblcckcaaaaW.PrintLast
def decR (l : List UInt8) : Option (S31 × List UInt8) :=
  (dec l).bind fun p => (dec p.2).bind fun q => (ttext q.2 512).bind fun t => if mayR ⟨p.1, q.1, bs t.1⟩ = true then some (⟨p.1, q.1, bs t.1⟩, t.2) else none
theorem decR_iff (l : List UInt8) (x : S31) (r : List UInt8) : decR l = some (x, r) ↔ l = encR x ++ r ∧ mayR x = true := by
  unfold decR
  constructor
  · intro h
    obtain ⟨⟨a, l1⟩, h1, g1⟩ := Option.bind_eq_some_iff.mp h
    obtain ⟨⟨b, l2⟩, h2, g2⟩ := Option.bind_eq_some_iff.mp g1
    obtain ⟨⟨t, l3⟩, h3, g3⟩ := Option.bind_eq_some_iff.mp g2
    obtain ⟨e1, -⟩ := (dec_iff _ _ _).1 h1
    obtain ⟨e2, -⟩ := (dec_iff _ _ _).1 h2
    obtain ⟨e3, -⟩ := ttext_some h3
    clear h g1 g2 h1 h2 h3
    dsimp only at e2 e3 g3
    split at g3
    · rename_i hm
      simp only [Option.some.injEq, Prod.mk.injEq] at g3
      obtain ⟨rfl, rfl⟩ := g3
      refine ⟨?_, hm⟩
      unfold encR
      dsimp only
      rw [e1, e2, e3, data_bs, List.append_assoc, List.append_assoc]
    · cases g3
  · rintro ⟨rfl, hm⟩
    obtain ⟨i0, i1, i2⟩ := mayR_i64 hm
    have hs : x.f2.data.toList.length = x.f2.size := by simp
    unfold encR
    rw [List.append_assoc, List.append_assoc, dec_enc i0, Option.bind_some]
    dsimp only
    rw [dec_enc i1, Option.bind_some]
    dsimp only
    rw [ttext_ptext _ _ (by omega) 512 (by omega), Option.bind_some]
    dsimp only
    rw [bs_data, if_pos hm]
theorem decR_enc {x : S31} (h : mayR x = true) (r : List UInt8) : decR (encR x ++ r) = some (x, r) := (decR_iff _ _ _).2 ⟨rfl, h⟩
def takeRR : Option (S31 × List UInt8) → Int × Int × ByteArray × ByteArray × Int
  | some (x, r) => (x.f0, x.f1, x.f2, bs r, 0)
  | none => (0, 0, ⟨#[]⟩, ⟨#[]⟩, 2)
theorem textR_1 (a b : List UInt8) : (textR (some (a, b))).1 = bs a := rfl
theorem textR_2 (a b : List UInt8) : (textR (some (a, b))).2.1 = bs b := rfl
theorem textR_3 (a b : List UInt8) : (textR (some (a, b))).2.2 = 0 := rfl
theorem takeRec_eq (l : List UInt8) (hl : l.length ≤ 9000000000000000000) (k : Nat) (hk : 200 ≤ k) : batch_TakeRecord.f k (bs l) = some (takeRR (decR l)) := by
  unfold batch_TakeRecord.f decR
  rw [takeAll_eq l (by omega) 2 k hk, Option.bind_some]
  have h2 : takeAllR l 2 = allR (decN 2 l) := if_neg (by omega)
  rw [h2]
  cases hd : dec l with
  | none =>
    have : decN 2 l = none := by simp only [decN, hd, Option.bind_none]
    rw [this, Option.bind_none]
    rfl
  | some p =>
    obtain ⟨a, l1⟩ := p
    rw [Option.bind_some]
    dsimp only
    cases hd1 : dec l1 with
    | none =>
      have : decN 2 l = none := by simp only [decN, hd, hd1, Option.bind_some, Option.bind_none, Option.map_none]
      rw [this, Option.bind_none]
      rfl
    | some q =>
      obtain ⟨b, l2⟩ := q
      have e1 := (dec_iff _ _ _).1 hd
      have e2 := (dec_iff _ _ _).1 hd1
      have hl2 : l2.length ≤ l.length := by rw [e1.1, e2.1, List.length_append, List.length_append]; omega
      have : decN 2 l = some ([a, b], l2) := by simp only [decN, hd, hd1, Option.bind_some, Option.map_some]
      rw [this, Option.bind_some]
      show (if (0 : Int) = 0 then _ else _) = _
      rw [if_pos rfl]
      show (varint_TakeText.f (bs l2) 512).bind _ = _
      rw [takeText_eq l2 (by omega) 512, Option.bind_some]
      dsimp only
      cases ht : ttext l2 512 with
      | none => rfl
      | some t =>
        obtain ⟨t, l3⟩ := t
        rw [Option.bind_some, textR_1, textR_2, textR_3, if_pos rfl]
        show (if (0 : Int) < 2 then (if (1 : Int) < 2 then ((batch_may.f a b (bs t)).bind _) else _) else _) = _
        rw [if_pos (by decide), if_pos (by decide), may_eq ⟨a, b, bs t⟩, Option.bind_some]
        dsimp only
        cases hm : mayR ⟨a, b, bs t⟩ with
        | true => rw [if_pos rfl, if_pos rfl]; rfl
        | false => rw [if_neg (by decide), if_neg (by decide)]; rfl
theorem rtakeRec_eq (l : List UInt8) (hl : l.length ≤ 9000000000000000000) (k : Nat) (hk : 200 ≤ k) : headgateref06_TakeRecord.f k (bs l) = some (takeRR (decR l)) := by
  unfold headgateref06_TakeRecord.f decR
  rw [take_f l (by omega) k (by omega), Option.bind_some]
  cases hd : dec l with
  | none =>
    rw [takeR_n2, takeR_n3, take_f [] (by simp) k (by omega), Option.bind_some]
    have hn : dec [] = none := by decide
    rw [hn, takeR_n2, rtakeText_eq [] (by simp) 512 k (by omega), Option.bind_some, if_neg (by decide)]
    rfl
  | some p =>
    obtain ⟨a, l1⟩ := p
    have e1 := (dec_iff _ _ _).1 hd
    have hl1 : l1.length ≤ l.length := by rw [e1.1, List.length_append]; omega
    rw [takeR_1, takeR_2, takeR_3, take_f l1 (by omega) k (by omega), Option.bind_some, Option.bind_some]
    dsimp only
    cases hd1 : dec l1 with
    | none =>
      rw [takeR_n2, rtakeText_eq [] (by simp) 512 k (by omega), Option.bind_some, if_pos rfl, takeR_n3, if_neg (by decide)]
      rfl
    | some q =>
      obtain ⟨b, l2⟩ := q
      have e2 := (dec_iff _ _ _).1 hd1
      have hl2 : l2.length ≤ l1.length := by rw [e2.1, List.length_append]; omega
      rw [takeR_1, takeR_2, takeR_3, rtakeText_eq l2 (by omega) 512 k (by omega), Option.bind_some, Option.bind_some, if_pos rfl, if_pos rfl]
      dsimp only
      cases ht : ttext l2 512 with
      | none => rfl
      | some t =>
        obtain ⟨t, l3⟩ := t
        rw [Option.bind_some, textR_1, textR_2, textR_3, if_pos rfl, rmay_eq ⟨a, b, bs t⟩, Option.bind_some]
        dsimp only
        cases hm : mayR ⟨a, b, bs t⟩ with
        | true => rw [if_pos rfl, if_pos rfl]; rfl
        | false => rw [if_neg (by decide), if_neg (by decide)]; rfl
/-- So many records, with which bytes begin. -/
def decRs : Nat → List UInt8 → Option (List S31 × List UInt8)
  | 0, l => some ([], l)
  | n + 1, l => (decR l).bind fun p => (decRs n p.2).map fun q => (p.1 :: q.1, q.2)
theorem decRs_iff (n : Nat) : ∀ (l : List UInt8) (xs : List S31) (r : List UInt8), decRs n l = some (xs, r) ↔ l = xs.flatMap encR ++ r ∧ xs.length = n ∧ ∀ x ∈ xs, mayR x = true := by
  induction n with
  | zero =>
    intro l xs r
    simp only [decRs, Option.some.injEq, Prod.mk.injEq]
    constructor
    · rintro ⟨rfl, rfl⟩; simp
    · rintro ⟨h1, h2, -⟩
      obtain rfl := List.eq_nil_of_length_eq_zero h2
      simp at h1
      exact ⟨rfl, h1⟩
  | succ n ih =>
    intro l xs r
    simp only [decRs, Option.bind_eq_some_iff, Option.map_eq_some_iff, Prod.exists, Prod.mk.injEq]
    constructor
    · rintro ⟨x, l', hd, ys, r', hn, rfl, rfl⟩
      obtain ⟨rfl, hx⟩ := (decR_iff _ _ _).1 hd
      obtain ⟨rfl, hl, hall⟩ := (ih _ _ _).1 hn
      refine ⟨by simp, by simp [hl], fun y hy => ?_⟩
      rcases List.mem_cons.1 hy with rfl | hy
      · exact hx
      · exact hall y hy
    · rintro ⟨rfl, h2, h3⟩
      cases xs with
      | nil => simp at h2
      | cons x ys =>
        have hx := h3 x (List.mem_cons_self ..)
        refine ⟨x, ys.flatMap encR ++ r, ?_, ys, r, (ih _ _ _).2 ⟨rfl, by simpa using h2, fun y hy => h3 y (List.mem_cons_of_mem _ hy)⟩, rfl, rfl⟩
        rw [List.flatMap_cons, List.append_assoc]
        exact decR_enc hx _
abbrev BR := Int × Int × Int × Int × List S31 × Int
def bad : BR := (0, 0, 0, 0, [], 2)
/-- What the records behind a batch's head come to. -/
def tailB (kd p e s : Int) (acc : List S31) : Option (List S31 × List UInt8) → BR
  | some (xs, r) => if r = [] ∧ mayB kd p e s (acc ++ xs) = true then (kd, p, e, s, acc ++ xs, 0) else bad
  | none => bad
theorem takeRR_5s (x : S31) (r : List UInt8) : (takeRR (some (x, r))).2.2.2.2 = 0 := rfl
theorem takeRR_4s (x : S31) (r : List UInt8) : (takeRR (some (x, r))).2.2.2.1 = bs r := rfl
theorem takeRR_5n : (takeRR none).2.2.2.2 = 2 := rfl
theorem decode_l0 (kd p e s : Int) (d : Nat) : ∀ (l : List UInt8) (n i : Int) (acc : List S31) (k : Nat), l.length ≤ 9000000000000000000 → 0 ≤ i → i ≤ n → n ≤ 64 → n - i = d → acc.length ≤ 64 → acc.length + d ≤ 64 → d + 300 < k →
    batch_Decode.l0 k (bs l) n i kd p e s acc = some (tailB kd p e s acc (decRs d l)) := by
  induction d with
  | zero =>
    intro l n i acc k hl h0 h1 h64 hd ha had hk
    obtain ⟨k, rfl⟩ : ∃ m, k = m + 1 := ⟨k - 1, by omega⟩
    rw [batch_Decode.l0, if_neg (by omega), toList_bs]
    show _ = some (if l = [] ∧ mayB kd p e s (acc ++ []) = true then (kd, p, e, s, acc ++ [], 0) else bad)
    rw [List.append_nil]
    by_cases c : l = []
    · rw [if_pos c, check_eq kd p e s acc (by omega) k (by omega), Option.bind_some]
      by_cases c2 : mayB kd p e s acc = true
      · rw [if_pos c2, if_pos rfl, if_pos ⟨c, c2⟩]
      · rw [if_neg c2, if_neg (by decide), if_neg (fun h => c2 h.2)]; rfl
    · rw [if_neg c, if_neg (fun h => c h.1)]; rfl
  | succ d ih =>
    intro l n i acc k hl h0 h1 h64 hd ha had hk
    obtain ⟨k, rfl⟩ : ∃ m, k = m + 1 := ⟨k - 1, by omega⟩
    rw [batch_Decode.l0, if_pos (by omega), takeRec_eq l hl k (by omega), Option.bind_some]
    cases hr : decR l with
    | none =>
      rw [takeRR_5n, if_neg (by decide)]
      simp only [decRs, hr, Option.bind_none]
      rfl
    | some q =>
      obtain ⟨x, r⟩ := q
      have e1 := (decR_iff _ _ _).1 hr
      have hrl : r.length ≤ l.length := by rw [e1.1, List.length_append]; omega
      rw [takeRR_5s, takeRR_4s, if_pos rfl, if_pos (by omega), w64 (by omega) (by omega)]
      show batch_Decode.l0 k (bs r) n (i + 1) kd p e s (acc ++ [x]) = _
      rw [ih r n (i + 1) (acc ++ [x]) k (by omega) (by omega) (by omega) h64 (by omega) (by rw [List.length_append, List.length_singleton]; omega) (by rw [List.length_append, List.length_singleton]; omega) (by omega)]
      simp only [decRs, hr, Option.bind_some]
      cases decRs d r with
      | none => rfl
      | some q =>
        show some (tailB kd p e s (acc ++ [x]) (some (q.1, q.2))) = some (tailB kd p e s acc (some (x :: q.1, q.2)))
        simp only [tailB, List.append_assoc, List.singleton_append]
theorem rdecode_l0 (h : List Int) (h5 : h.length = 5) (kd p e s : Int) (d : Nat) : ∀ (l : List UInt8) (i : Int) (acc : List S31) (k : Nat), l.length ≤ 9000000000000000000 → 0 ≤ i → i ≤ rd h 4 → rd h 4 ≤ 64 → rd h 4 - i = d → acc.length ≤ 64 → acc.length + d ≤ 64 → d + 300 < k →
    headgateref06_Decode.l0 k h (bs l) i 0 0 0 0 kd p e s acc = some (tailB kd p e s acc (decRs d l)) := by
  induction d with
  | zero =>
    intro l i acc k hl h0 h1 h64 hd ha had hk
    obtain ⟨k, rfl⟩ : ∃ m, k = m + 1 := ⟨k - 1, by omega⟩
    rw [headgateref06_Decode.l0, if_pos (by omega), if_neg (by omega), size_bs]
    show _ = some (if l = [] ∧ mayB kd p e s (acc ++ []) = true then (kd, p, e, s, acc ++ [], 0) else bad)
    rw [List.append_nil]
    by_cases c : l = []
    · subst c
      rw [if_neg (by simp), rMay_eq kd p e s acc (by omega) k (by omega), Option.bind_some]
      by_cases c2 : mayB kd p e s acc = true
      · rw [if_pos c2, if_pos ⟨rfl, c2⟩]
      · rw [if_neg c2, if_neg (fun h => c2 h.2)]; rfl
    · have : 0 < l.length := List.length_pos_iff.2 c
      rw [if_pos (by omega), if_neg (fun h => c h.1)]; rfl
  | succ d ih =>
    intro l i acc k hl h0 h1 h64 hd ha had hk
    obtain ⟨k, rfl⟩ : ∃ m, k = m + 1 := ⟨k - 1, by omega⟩
    rw [headgateref06_Decode.l0, if_pos (by omega), if_pos (by omega), rtakeRec_eq l hl k (by omega), Option.bind_some]
    cases hr : decR l with
    | none =>
      rw [takeRR_5n, if_neg (by decide)]
      simp only [decRs, hr, Option.bind_none]
      rfl
    | some q =>
      obtain ⟨x, r⟩ := q
      have e1 := (decR_iff _ _ _).1 hr
      have hrl : r.length ≤ l.length := by rw [e1.1, List.length_append]; omega
      rw [takeRR_5s, takeRR_4s, if_pos rfl, if_pos (by omega), w64 (by omega) (by omega)]
      show headgateref06_Decode.l0 k h (bs r) (i + 1) 0 0 0 0 kd p e s (acc ++ [x]) = _
      rw [ih r (i + 1) (acc ++ [x]) k (by omega) (by omega) (by omega) h64 (by omega) (by rw [List.length_append, List.length_singleton]; omega) (by rw [List.length_append, List.length_singleton]; omega) (by omega)]
      simp only [decRs, hr, Option.bind_some]
      cases decRs d r with
      | none => rfl
      | some q =>
        show some (tailB kd p e s (acc ++ [x]) (some (q.1, q.2))) = some (tailB kd p e s acc (some (x :: q.1, q.2)))
        simp only [tailB, List.append_assoc, List.singleton_append]
def decBR (l : List UInt8) : BR := match decN 5 l with
  | some (h, r) => if rd h 4 < 0 ∨ rd h 4 > 64 then bad else tailB (rd h 0) (rd h 1) (rd h 2) (rd h 3) [] (decRs (rd h 4).toNat r)
  | none => bad
theorem decode_eq (l : List UInt8) (hl : l.length ≤ 9000000000000000000) (k : Nat) (hk : 500 ≤ k) : batch_Decode.f k (bs l) = some (decBR l) := by
  obtain ⟨k, rfl⟩ : ∃ m, k = m + 1 := ⟨k - 1, by omega⟩
  unfold batch_Decode.f decBR
  have jt : ∀ r h, batch_Decode.j0 (k + 1) r h true = some bad := fun r h => by rw [batch_Decode.j0, if_pos rfl]; rfl
  rw [takeAll_eq l (by omega) 5 _ (by omega), Option.bind_some, jt]
  have h2 : takeAllR l 5 = allR (decN 5 l) := if_neg (by omega)
  rw [h2]
  cases hd : decN 5 l with
  | none => rfl
  | some q =>
    obtain ⟨h, r⟩ := q
    obtain ⟨e1, h5, -⟩ := (decN_iff _ _ _ _).1 hd
    have hrl : r.length ≤ l.length := by rw [e1, List.length_append]; omega
    show (if (0 : Int) = 0 then (if (4 : Int) < (h.length : Int) then (if (rd h 4) < 0 then batch_Decode.j0 (k + 1) (bs r) h true else batch_Decode.j0 (k + 1) (bs r) h (decide ((rd h 4) > 64))) else none) else _) = _
    rw [if_pos rfl, if_pos (by omega)]
    by_cases c1 : rd h 4 < 0
    · rw [if_pos c1, jt]
      show some bad = some (if rd h 4 < 0 ∨ rd h 4 > 64 then bad else _)
      rw [if_pos (.inl c1)]
    · rw [if_neg c1]
      show _ = some (if rd h 4 < 0 ∨ rd h 4 > 64 then bad else tailB (rd h 0) (rd h 1) (rd h 2) (rd h 3) [] (decRs (rd h 4).toNat r))
      by_cases c2 : rd h 4 > 64
      · rw [decide_eq_true c2, jt, if_pos (.inr c2)]
      · rw [decide_eq_false c2, if_neg (by omega), batch_Decode.j0, if_neg (by decide), if_pos (by omega), if_pos (by omega), if_pos (by omega), if_pos (by omega), if_pos (by omega)]
        exact decode_l0 _ _ _ _ (rd h 4).toNat r (rd h 4) 0 [] k (by omega) (by omega) (by omega) (by omega) (by omega) (by simp) (by simp; omega) (by omega)
theorem rdecode_eq (l : List UInt8) (hl : l.length ≤ 9000000000000000000) (k : Nat) (hk : 500 ≤ k) : headgateref06_Decode.f k (bs l) = some (decBR l) := by
  obtain ⟨k, rfl⟩ : ∃ m, k = m + 1 := ⟨k - 1, by omega⟩
  unfold headgateref06_Decode.f decBR
  have jt : ∀ h r a b c d, headgateref06_Decode.j0 (k + 1) h r true 0 0 0 0 a b c d = some bad := fun h r a b c d => by rw [headgateref06_Decode.j0, if_pos rfl]; rfl
  rw [rtakeAll_eq l (by omega) 5 _ (by omega), Option.bind_some]
  have h2 : takeAllR l 5 = allR (decN 5 l) := if_neg (by omega)
  rw [h2]
  cases hd : decN 5 l with
  | none => rfl
  | some q =>
    obtain ⟨h, r⟩ := q
    obtain ⟨e1, h5, -⟩ := (decN_iff _ _ _ _).1 hd
    have hrl : r.length ≤ l.length := by rw [e1, List.length_append]; omega
    show (if (0 : Int) = 0 then (if (0 : Int) < (h.length : Int) then (if (1 : Int) < (h.length : Int) then (if (2 : Int) < (h.length : Int) then (if (3 : Int) < (h.length : Int) then (if (4 : Int) < (h.length : Int) then (if (rd h 4) < 0 then headgateref06_Decode.j0 (k + 1) h (bs r) true 0 0 0 0 (rd h 0) (rd h 1) (rd h 2) (rd h 3) else headgateref06_Decode.j0 (k + 1) h (bs r) (decide ((rd h 4) > 64)) 0 0 0 0 (rd h 0) (rd h 1) (rd h 2) (rd h 3)) else none) else none) else none) else none) else none) else _) = _
    rw [if_pos rfl, if_pos (by omega), if_pos (by omega), if_pos (by omega), if_pos (by omega), if_pos (by omega)]
    by_cases c1 : rd h 4 < 0
    · rw [if_pos c1, jt]
      show some bad = some (if rd h 4 < 0 ∨ rd h 4 > 64 then bad else _)
      rw [if_pos (.inl c1)]
    · rw [if_neg c1]
      show _ = some (if rd h 4 < 0 ∨ rd h 4 > 64 then bad else tailB (rd h 0) (rd h 1) (rd h 2) (rd h 3) [] (decRs (rd h 4).toNat r))
      by_cases c2 : rd h 4 > 64
      · rw [decide_eq_true c2, jt, if_pos (.inr c2)]
      · rw [decide_eq_false c2, if_neg (by omega), headgateref06_Decode.j0, if_neg (by decide)]
        exact rdecode_l0 h h5 _ _ _ _ (rd h 4).toNat r 0 [] k (by omega) (by omega) (by omega) (by omega) (by omega) (by simp) (by simp; omega) (by omega)
/-- What is read as a batch: it may be, and the bytes are its own. -/
theorem decBR_ok {l : List UInt8} {kd p e s c : Int} {xs : List S31} (h : decBR l = (kd, p, e, s, xs, c)) (h0 : c = 0) : mayB kd p e s xs = true ∧ l = encB kd p e s xs := by
  subst h0
  unfold decBR at h
  cases hd : decN 5 l with
  | none => rw [hd] at h; simp [bad] at h
  | some q =>
    obtain ⟨hh, r⟩ := q
    obtain ⟨e1, h5, -⟩ := (decN_iff _ _ _ _).1 hd
    rw [hd] at h
    dsimp only at h
    split at h
    · simp [bad] at h
    · rename_i hc
      cases hr : decRs (rd hh 4).toNat r with
      | none => rw [hr] at h; simp [bad, tailB] at h
      | some q =>
        obtain ⟨ys, r'⟩ := q
        obtain ⟨e2, hn, hm⟩ := (decRs_iff _ _ _ _).1 hr
        rw [hr] at h
        unfold tailB at h
        dsimp only at h
        split at h
        · rename_i hb
          obtain ⟨rfl, hb⟩ := hb
          simp only [List.nil_append, Prod.mk.injEq, and_true] at h hb
          obtain ⟨rfl, rfl, rfl, rfl, rfl⟩ := h
          refine ⟨hb, ?_⟩
          match hh, h5 with
          | [a0, a1, a2, a3, a4], _ =>
            have hr4 : rd [a0, a1, a2, a3, a4] 4 = a4 := rfl
            rw [hr4] at hn hc
            have h4 : a4 = (ys.length : Int) := by omega
            rw [e1, e2, List.append_nil, h4]
            rfl
        · simp [bad] at h
/-- Else: nothing's. -/
theorem decBR_or (l : List UInt8) : (decBR l).2.2.2.2.2 = 0 ∨ decBR l = bad := by
  unfold decBR
  cases decN 5 l with
  | none => exact .inr rfl
  | some q =>
    obtain ⟨h, r⟩ := q
    dsimp only
    split
    · exact .inr rfl
    · cases decRs (rd h 4).toNat r with
      | none => exact .inr rfl
      | some q =>
        obtain ⟨ys, r'⟩ := q
        unfold tailB
        dsimp only
        split
        · exact .inl rfl
        · exact .inr rfl
instance decS : DecidableEq S31 := fun x y => decidable_of_iff (x.f0 = y.f0 ∧ x.f1 = y.f1 ∧ x.f2 = y.f2) ⟨fun ⟨a, b, c⟩ => by obtain ⟨x0, x1, x2⟩ := x; obtain ⟨y0, y1, y2⟩ := y; dsimp only at a b c; rw [a, b, c], fun h => by rw [h]; exact ⟨rfl, rfl, rfl⟩⟩
theorem rsameR_l0 (a b : List S31) (hab : a.length = b.length) (ha : a.length ≤ 9223372036854775800) (d : Nat) : ∀ (i k : Nat), i ≤ a.length → a.length - i = d → d < k →
    headgateref06_SameRecords.l0 k a b (i : Int) = some (decide (a.drop i = b.drop i)) := by
  induction d with
  | zero =>
    intro i k hi hd hk
    obtain ⟨k, rfl⟩ : ∃ m, k = m + 1 := ⟨k - 1, by omega⟩
    rw [headgateref06_SameRecords.l0, if_neg (by omega), List.drop_of_length_le (by omega), List.drop_of_length_le (by omega)]
    rfl
  | succ d ih =>
    intro i k hi hd hk
    obtain ⟨k, rfl⟩ : ∃ m, k = m + 1 := ⟨k - 1, by omega⟩
    have h1 : i < a.length := by omega
    have h2 : i < b.length := by omega
    have e1 : wrap64 ((i : Int) + 1) = ((i + 1 : Nat) : Int) := by rw [w64 (by omega) (by omega)]; omega
    have hx : (!((a[i]).f0 == (b[i]).f0) || (!((a[i]).f1 == (b[i]).f1) || (!((a[i]).f2.toList == (b[i]).f2.toList)))) = !decide (a[i] = b[i]) := by
      generalize a[i] = x
      generalize b[i] = y
      obtain ⟨x0, x1, x2⟩ := x
      obtain ⟨y0, y1, y2⟩ := y
      have ht : x2.toList = y2.toList ↔ x2 = y2 := by
        rw [← bs_data x2, ← bs_data y2, toList_bs, toList_bs, bs_inj]
      by_cases q0 : x0 = y0 <;> by_cases q1 : x1 = y1 <;> by_cases q2 : x2 = y2 <;> simp [q0, q1, q2, ht]
    rw [headgateref06_SameRecords.l0, if_pos (by omega), if_pos (by omega), if_pos (by omega), rd_at a i h1, rd_at b i h2, hx, e1]
    have da := List.drop_eq_getElem_cons h1
    have db := List.drop_eq_getElem_cons h2
    by_cases hx : a[i] = b[i]
    · rw [decide_eq_true hx, if_neg (by decide), ih (i + 1) k (by omega) (by omega) (by omega), da, db, hx]
      refine congrArg some (decide_eq_decide.mpr ⟨fun h => by rw [h], fun h => (List.cons.inj h).2⟩)
    · rw [decide_eq_false hx, if_pos (by decide), da, db]
      exact congrArg some (decide_eq_false fun h => hx (List.cons.inj h).1).symm
theorem rsame_eq (k1 p1 e1 s1 : Int) (a : List S31) (k2 p2 e2 s2 : Int) (b : List S31) (ha : a.length ≤ 9223372036854775800) (k : Nat) (hk : a.length < k) : headgateref06_Same.f k k1 p1 e1 s1 a k2 p2 e2 s2 b = some (decide (k1 = k2 ∧ p1 = p2 ∧ e1 = e2 ∧ s1 = s2 ∧ a = b)) := by
  have hs : headgateref06_SameRecords.f k a b = some (decide (a = b)) := by
    unfold headgateref06_SameRecords.f
    by_cases h : (a.length : Int) = (b.length : Int)
    · rw [if_pos h]
      exact rsameR_l0 a b (by omega) ha a.length 0 k (by omega) (by omega) hk
    · rw [if_neg h]
      have : a ≠ b := fun e => h (by rw [e])
      simp [this]
  unfold headgateref06_Same.f
  rw [hs, Option.bind_some]
  by_cases q0 : k1 = k2 <;> by_cases q1 : p1 = p2 <;> by_cases q2 : e1 = e2 <;> by_cases q3 : s1 = s2 <;> simp [q0, q1, q2, q3]
end Go.Proofs.Ythmckblcckcaaaa.Bd
set_option linter.unusedVariables false
namespace Go.Proofs.Ythmckblcckcaaaa.Pure
open Go.RowKit Go.Proofs.Ythmckblcckcaaaa.Vm Go.Proofs.Ythmckblcckcaaaa.Bt Go.Proofs.Ythmckblcckcaaaa.Be Go.Proofs.Ythmckblcckcaaaa.Bd Go.Proofs.Ythmckblcckcaaaa.P Go.Proofs.YthmckblcckcaaaaW.PrintWords Go.Proofs.YthmckblcckcaaaaW.PrintLast Go.Proofs.YthmckblcckcaaaaW.PrintMore
theorem BatchCodes : headgatelaw06_BatchCodes.Pure := by
  intro kd p e s l b h1 h2 h3 h4 hl hb
  obtain ⟨b, rfl⟩ := bs_of b
  refine ⟨l.length + 1000, ?_⟩
  unfold headgatelaw06_BatchCodes.f
  have jt : headgatelaw06_BatchCodes.j0 (l.length + 1000) (bs b) true kd p e s l = some true := by
    rw [headgatelaw06_BatchCodes.j0, if_pos rfl, awake_eq _ (by omega), Option.bind_some]
  rw [light_eq kd p e s l hl.1 _ (by omega), Option.bind_some]
  by_cases c : light l = true
  · rw [if_pos c]
    by_cases c2 : ((bs b).size : Int) > 50000
    · rw [decide_eq_true c2]; exact jt
    · rw [size_bs] at c2
      have hbl : (decBR b).2.2.2.2.1.length ≤ 64 := by
        rcases decBR_or b with h | h
        · have := (decBR_ok (show decBR b = ((decBR b).1, (decBR b).2.1, (decBR b).2.2.1, (decBR b).2.2.2.1, (decBR b).2.2.2.2.1, (decBR b).2.2.2.2.2) from rfl) h).1
          exact (mayB_iff.1 this).2.1
        · rw [h]; simp [bad]
      rw [size_bs, decide_eq_false c2, headgatelaw06_BatchCodes.j0, if_neg (by decide), encode_eq kd p e s l hl.1 _ (by omega), Option.bind_some, rencode_eq kd p e s l hl.1 _ (by omega), Option.bind_some, decode_eq b (by omega) _ (by omega), Option.bind_some, rdecode_eq b (by omega) _ (by omega), Option.bind_some, if_pos rfl, if_pos rfl, rsame_eq _ _ _ _ _ _ _ _ _ _ (by omega) _ (by omega), Option.bind_some, if_pos (by simp), if_pos rfl, awake_eq _ (by omega), Option.bind_some]
  · rw [if_neg c]; exact jt
end Go.Proofs.Ythmckblcckcaaaa.Pure
