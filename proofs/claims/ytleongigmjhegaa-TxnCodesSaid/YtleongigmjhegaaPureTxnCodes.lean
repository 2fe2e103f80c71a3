/- For any note and any bytes: txn.Encode, txn.Decode and txn.Check tell what the document's references tell; what is read was laid so, what was laid is read; chapter 12's example holds. No condition. -/
import Derived.Test.YtleongigmjhegaaPx3
import Derived.Test.YtleongigmjhegaaPx4
import Derived.Test.YtleongigmjhegaaPx5
import Derived.Test.YtleongigmjhegaaPx6
import Derived.Test.YtleongigmjhegaaPx17
import Derived.Test.YtleongigmjhegaaPx18
import Derived.Test.YtleongigmjhegaaPx19
import Derived.Test.YtleongigmjhegaaPx20
import Derived.Test.YtleongigmjhegaaPx21
import Derived.Test.YtleongigmjhegaaPx22
import Derived.Test.YtleongigmjhegaaPx23
import Derived.Test.YtleongigmjhegaaPx24
import Derived.Test.YtleongigmjhegaaVm
import Derived.Laws.Bits64
set_option linter.unusedVariables false
set_option linter.unusedSimpArgs false
namespace Go.Proofs.Ytleongigmjhegaa.Vref
open Go.RowKit Go.Proofs.Ytleongigmjhegaa.Vm Go.Proofs.Ytleongigmjhegaa.P Go.Proofs.YtleongigmjhegaaW.PrintWords
theorem u64w (n : Int) : IntKind.u64.wrap n = n % 18446744073709551616 := IntKind.wrap_u64 n
theorem w64 {x : Int} (h0 : -9223372036854775808 ≤ x) (h1 : x ≤ 9223372036854775807) : wrap64 x = x := by unfold wrap64; omega
def toB (xs : List Int) : List UInt8 := xs.map fun n => UInt8.ofNat n.toNat
theorem toB_snoc (xs : List Int) (n : Int) : toB (xs ++ [n]) = toB xs ++ [UInt8.ofNat n.toNat] := by simp [toB]
theorem strOfNums_snoc (xs : List Int) (n : Int) : strOfNums (xs ++ [n]) = bs (toB xs ++ [UInt8.ofNat n.toNat]) := by rw [strOfNums_bs]; simp [toB]
theorem put_l0 (f : Nat) : ∀ (u k : Nat) (acc : List Int), u < 2 * 128 ^ f → f ≤ 9 → f < k → acc.length + f < 100 →
    headgateref01_Put.l0 k (u : Int) acc = some (bs (toB acc ++ sev f u)) := by
  induction f with
  | zero =>
    intro u k acc hu _ hk hl
    obtain ⟨k, rfl⟩ : ∃ m, k = m + 1 := ⟨k - 1, by omega⟩
    simp only [headgateref01_Put.l0]
    rw [if_neg (by omega), if_pos (by omega), strOfNums_snoc]
    have : ((u : Int) % 256).toNat = u := by omega
    rw [this]
    rfl
  | succ f ih =>
    intro u k acc hu hf hk hl
    have hs : 2 * 128 ^ (f + 1) = 128 * (2 * 128 ^ f) := by rw [Nat.pow_succ]; omega
    have hmax : 2 * 128 ^ (f + 1) ≤ 18446744073709551616 := by
      have : 128 ^ (f + 1) ≤ 128 ^ 9 := Nat.pow_le_pow_right (by decide) hf
      omega
    obtain ⟨k, rfl⟩ : ∃ m, k = m + 1 := ⟨k - 1, by omega⟩
    simp only [headgateref01_Put.l0]
    unfold sev
    by_cases h : u < 128
    · rw [if_neg (by omega), if_pos (by omega), strOfNums_snoc, if_pos h]
      have : ((u : Int) % 256).toNat = u := by omega
      rw [this]
    · rw [if_pos (by omega), if_pos (by omega), if_neg h]
      have e1 : IntKind.u64.wrap (Int.tdiv (u : Int) 128) = ((u / 128 : Nat) : Int) := by
        rw [Int.tdiv_eq_ediv_of_nonneg (by omega), u64w]; omega
      have e2 : ((IntKind.u64.wrap (Int.tmod (u : Int) 128 + 128)) % 256).toNat = u % 128 + 128 := by
        rw [Int.tmod_eq_emod_of_nonneg (by omega), u64w]; omega
      rw [e1, ih (u / 128) k _ (by omega) (by omega) (by omega) (by simp; omega), toB_snoc, e2]
      simp
theorem put_f (n : Int) (hn : I64 n) (k : Nat) (hk : 12 ≤ k) : headgateref01_Put.f k n = some (bs (enc n)) := by
  have hz := zz_lt.2 hn
  obtain ⟨k, rfl⟩ : ∃ m, k = m + 1 := ⟨k - 1, by omega⟩
  unfold I64 at hn
  unfold headgateref01_Put.f
  split
  · rename_i h
    have e : IntKind.u64.wrap (IntKind.u64.wrap (IntKind.u64.wrap (wrap64 (-(wrap64 (n + 1)))) * 2) + 1) = ((zz n : Nat) : Int) := by
      unfold wrap64 zz; rw [if_pos h]; simp only [u64w]; omega
    rw [e]
    simp only [headgateref01_Put.j0]
    exact put_l0 9 _ _ _ hz (by omega) (by omega) (by simp)
  · rename_i h
    have e : IntKind.u64.wrap (IntKind.u64.wrap n * 2) = ((zz n : Nat) : Int) := by
      unfold zz; rw [if_neg h]; simp only [u64w]; omega
    rw [e]
    simp only [headgateref01_Put.j0]
    exact put_l0 9 _ _ _ hz (by omega) (by omega) (by simp)
/-- What bytes' sevens come to, the first byte the lowest. -/
def m64 (n : Nat) : Nat := n % 18446744073709551616
theorem m64_lt (n : Nat) : m64 n < 18446744073709551616 := Nat.mod_lt _ (by decide)
theorem m64_of {n : Nat} (h : n < 18446744073709551616) : m64 n = n := Nat.mod_eq_of_lt h
def val : List UInt8 → Nat
  | [] => 0
  | c :: t => c.toNat % 128 + 128 * val t
theorem val_sev (f : Nat) : ∀ u, u < 2 * 128 ^ f → val (sev f u) = u := by
  induction f with
  | zero => intro u hu; simp [sev, val, toNat_ofNat_lt (show u < 256 by omega)]; omega
  | succ f ih =>
    intro u hu
    have hs : 2 * 128 ^ (f + 1) = 128 * (2 * 128 ^ f) := by rw [Nat.pow_succ]; omega
    unfold sev
    split
    · rename_i h; simp [val, toNat_ofNat_lt (show u < 256 by omega)]; omega
    · simp only [val]; rw [ih _ (by omega), toNat_ofNat_lt (by omega)]; omega
/-- All bytes of a number but its last one are 128 or more; its last one is less. -/
theorem sev_tops (f : Nat) : ∀ u, u < 2 * 128 ^ f → (∀ i, i + 1 < (sev f u).length → 128 ≤ ((sev f u).getD i 0).toNat) ∧ ((sev f u).getD ((sev f u).length - 1) 0).toNat < 128 := by
  induction f with
  | zero => intro u hu; simp [sev, toNat_ofNat_lt (show u < 256 by omega)]; omega
  | succ f ih =>
    intro u hu
    have hs : 2 * 128 ^ (f + 1) = 128 * (2 * 128 ^ f) := by rw [Nat.pow_succ]; omega
    unfold sev
    split
    · rename_i h; simp [toNat_ofNat_lt (show u < 256 by omega)]; omega
    · obtain ⟨h1, h2⟩ := ih (u / 128) (by omega)
      have hl := (sev_len f (u / 128)).1
      constructor
      · intro i hi
        cases i with
        | zero => simp only [List.getD_cons_zero]; rw [toNat_ofNat_lt (by omega)]; omega
        | succ i => simp only [List.getD_cons_succ]; exact h1 i (by simpa using hi)
      · obtain ⟨m, hm⟩ : ∃ m, (sev f (u / 128)).length = m + 1 := ⟨_, (Nat.sub_add_cancel hl).symm⟩
        simp only [List.length_cons, Nat.add_sub_cancel]
        rw [hm]
        simp only [List.getD_cons_succ]
        rw [hm] at h2
        exact h2
theorem bt_bs (l : List UInt8) (i : Nat) (h : i < l.length) : bt (bs l) (i : Int) = ((l.getD i 0).toNat : Int) := by
  unfold bt
  rw [dif_pos (by simpa using h)]
  simp only [Int.toNat_natCast]
  rw [List.getD_eq_getElem?_getD, List.getElem?_eq_getElem h]
  rfl
/-- Where the scan stops: at the first byte below 128, at the end, or behind ten. -/
theorem take_l0 (l : List UInt8) (hl : l.length ≤ 9223372036854775800) (k : Nat) : ∀ (d i : Nat), i ≤ l.length → i ≤ 10 → d = 10 - i → (∀ j : Nat, j < i → 128 ≤ (l.getD j 0).toNat) → d < k →
    ∃ i' k' : Nat, k' + d + 1 ≥ k ∧ k' < k ∧ headgateref01_Take.l0 k (bs l) (i : Int) = headgateref01_Take.j1 k' (bs l) (i' : Int) ∧ i' ≤ l.length ∧ i' ≤ 10 ∧ (∀ j : Nat, j < i' → 128 ≤ (l.getD j 0).toNat) ∧ (i' = l.length ∨ i' = 10 ∨ (i' < l.length ∧ i' < 10 ∧ (l.getD i' 0).toNat < 128)) := by
  induction k with
  | zero => intro d i _ _ _ _ hk; omega
  | succ k ih =>
    intro d i h1 h2 hd hall hk
    simp only [headgateref01_Take.l0]
    by_cases hlt : i < l.length
    · rw [if_pos (by simp; omega)]
      by_cases h10 : i < 10
      · rw [if_pos (by omega), if_pos (by omega), bt_bs l i hlt]
        by_cases hb : 128 ≤ (l.getD i 0).toNat
        · rw [if_pos (by omega)]
          have e : wrap64 ((i : Int) + 1) = ((i + 1 : Nat) : Int) := by unfold wrap64; omega
          rw [e]
          obtain ⟨i', k', ha, hb', hc, hr⟩ := ih (d - 1) (i + 1) (by omega) (by omega) (by omega) (fun j hj => by
            rcases Nat.lt_or_ge j i with h | h
            · exact hall j h
            · obtain rfl : j = i := by omega
              exact hb) (by omega)
          exact ⟨i', k', by omega, by omega, hc, hr⟩
        · rw [if_neg (by omega)]
          exact ⟨i, k, by omega, by omega, rfl, h1, h2, hall, .inr (.inr ⟨hlt, h10, by omega⟩)⟩
      · rw [if_neg (by omega)]
        exact ⟨i, k, by omega, by omega, rfl, h1, h2, hall, .inr (.inl (by omega))⟩
    · rw [if_neg (by simp; omega)]
      exact ⟨i, k, by omega, by omega, rfl, h1, h2, hall, .inl (by omega)⟩
theorem val_drop (t : List UInt8) (m : Nat) (h : m < t.length) : val (t.drop m) = (t.getD m 0).toNat % 128 + 128 * val (t.drop (m + 1)) := by
  rw [List.drop_eq_getElem_cons h, val, List.getD_eq_getElem?_getD, List.getElem?_eq_getElem h]
  rfl
theorem l1_round (k : Nat) (x0 : ByteArray) (x5 x6 x7 : Int) (h0 : 0 ≤ x7) (h1 : x7 < (x0.size : Int)) : headgateref01_Take.l1 (k + 1) x0 x5 x6 x7 = headgateref01_Take.l1 k x0 x5 (IntKind.u64.wrap ((IntKind.u64.wrap (x6 * 128)) + (Int.tmod (IntKind.u64.wrap (bt x0 x7)) 128))) (wrap64 (x7 - 1)) := by
  rw [headgateref01_Take.l1, if_pos h0, if_pos h0, if_pos h1]
theorem take_l1 (l : List UInt8) (x5 : Nat) (hx : x5 < l.length) (h10 : x5 < 10) : ∀ (m k : Nat), m ≤ x5 + 1 → m + 20 ≤ k →
    ∃ k', 12 ≤ k' ∧ headgateref01_Take.l1 k (bs l) (x5 : Int) ((m64 (val ((l.take (x5 + 1)).drop m)) : Nat) : Int) ((m : Int) - 1) = headgateref01_Take.l1 (k' + 1) (bs l) (x5 : Int) ((m64 (val (l.take (x5 + 1))) : Nat) : Int) (-1) := by
  intro m
  induction m with
  | zero =>
    intro k _ hk
    obtain ⟨k, rfl⟩ : ∃ q, k = q + 1 := ⟨k - 1, by omega⟩
    refine ⟨k, by omega, ?_⟩
    rw [List.drop_zero, show ((0 : Nat) : Int) - 1 = -1 by omega]
  | succ m ih =>
    intro k hm hk
    obtain ⟨k, rfl⟩ : ∃ q, k = q + 1 := ⟨k - 1, by omega⟩
    obtain ⟨k', h1, h2⟩ := ih k (by omega) (by omega)
    refine ⟨k', h1, ?_⟩
    rw [← h2]
    have hlen : (l.take (x5 + 1)).length = x5 + 1 := by simp; omega
    have hg : (l.take (x5 + 1)).getD m 0 = l.getD m 0 := by
      simp only [List.getD_eq_getElem?_getD]
      rw [List.getElem?_take_of_lt (by omega)]
    have hv := val_drop (l.take (x5 + 1)) m (by omega)
    rw [hg] at hv
    have hbyte := (l.getD m 0).toNat_lt
    have e0 : ((m + 1 : Nat) : Int) - 1 = (m : Int) := by omega
    rw [e0]
    rw [l1_round k (bs l) _ _ (m : Int) (by omega) (by simp; omega), bt_bs l m (by omega)]
    have e1 : wrap64 ((m : Int) - 1) = (m : Int) - 1 := by unfold wrap64; omega
    have e2 : IntKind.u64.wrap ((IntKind.u64.wrap (((m64 (val ((l.take (x5 + 1)).drop (m + 1))) : Nat) : Int) * 128)) + (Int.tmod (IntKind.u64.wrap ((l.getD m 0).toNat : Int)) 128)) = ((m64 (val ((l.take (x5 + 1)).drop m)) : Nat) : Int) := by
      rw [hv]
      simp only [u64w, m64]
      rw [Int.tmod_eq_emod_of_nonneg (by omega)]
      omega
    rw [e1, e2]
theorem take_l1' (l : List UInt8) (x5 : Nat) (hx : x5 < l.length) (h10 : x5 < 10) (k : Nat) (hk : 40 ≤ k) :
    ∃ k', 12 ≤ k' ∧ headgateref01_Take.l1 k (bs l) (x5 : Int) 0 (x5 : Int) = headgateref01_Take.l1 (k' + 1) (bs l) (x5 : Int) ((m64 (val (l.take (x5 + 1))) : Nat) : Int) (-1) := by
  obtain ⟨kk, hkk, h⟩ := take_l1 l x5 hx h10 (x5 + 1) k (by omega) (by omega)
  refine ⟨kk, hkk, ?_⟩
  have hz : val ((l.take (x5 + 1)).drop (x5 + 1)) = 0 := by
    rw [List.drop_of_length_le (by rw [List.length_take]; omega)]
    rfl
  have hm : ((m64 0 : Nat) : Int) = 0 := rfl
  have e0 : ((x5 + 1 : Nat) : Int) - 1 = (x5 : Int) := by omega
  rw [hz, hm, e0] at h
  exact h
theorem take_fin (l : List UInt8) (hl : l.length ≤ 9223372036854775800) (i : Nat) (hlt : i < l.length) (h10 : i < 10) (hall : ∀ j : Nat, j < i → 128 ≤ (l.getD j 0).toNat) (hlast : (l.getD i 0).toNat < 128) (kk : Nat) (hkk : 12 ≤ kk) (u : Nat) (hu : m64 (val (l.take (i + 1))) = u) :
    ((headgateref01_Put.f kk (uz u)).bind fun t107 => (if 0 ≤ (wrap64 ((i : Int) + 1)) then (if (wrap64 ((i : Int) + 1)) ≤ ((bs l).size : Int) then (if t107.toList = ((bs l).extract 0 ((wrap64 ((i : Int) + 1)) : Int).toNat).toList then (some (uz u, (bs l).extract ((wrap64 ((i : Int) + 1)) : Int).toNat (bs l).size, (0 : Int))) else (some (0, (⟨#[]⟩ : ByteArray), 2))) else (none)) else (none))) = some (takeR (dec l)) := by
  have hult : u < 18446744073709551616 := by rw [← hu]; exact m64_lt _
  have e1 : wrap64 ((i : Int) + 1) = ((i + 1 : Nat) : Int) := by unfold wrap64; omega
  have hn : I64 (uz u) := zz_lt.1 (by rw [zz_uz]; exact hult)
  have hb : (i : Int) + 1 ≤ ((bs l).size : Int) := by rw [size_bs]; omega
  rw [put_f _ hn kk hkk, Option.bind_some, e1, if_pos (by omega), if_pos (by omega), Int.toNat_natCast, extract_bs, extract_bs, toList_bs, toList_bs, size_bs, List.drop_zero, Nat.sub_zero]
  by_cases hc : enc (uz u) = l.take (i + 1)
  · rw [if_pos hc]
    have : dec l = some (uz u, l.drop (i + 1)) := (dec_iff _ _ _).2 ⟨by rw [hc, List.take_append_drop], hn⟩
    rw [this, List.take_of_length_le (by simp)]
    rfl
  · rw [if_neg hc]
    cases hd : dec l with
    | none => rfl
    | some p =>
      exfalso
      obtain ⟨m, r⟩ := p
      obtain ⟨rfl, hm⟩ := (dec_iff l m r).1 hd
      have htop := sev_tops 9 (zz m) (zz_lt.2 hm)
      have hlen := enc_len m
      have hget : ∀ j, j < (enc m).length → (enc m ++ r).getD j 0 = (enc m).getD j 0 := fun j hj => by
        simp only [List.getD_eq_getElem?_getD]
        rw [List.getElem?_append_left hj]
      have hi : i + 1 = (enc m).length := by
        rcases Nat.lt_trichotomy (i + 1) (enc m).length with h | h | h
        · have h1 := htop.1 i h
          rw [hget i (by omega)] at hlast
          unfold enc at hlast
          omega
        · exact h
        · have h1 := hall ((enc m).length - 1) (by omega)
          rw [hget _ (by omega)] at h1
          unfold enc at h1
          omega
      have htk : (enc m ++ r).take (i + 1) = enc m := by rw [hi, List.take_left]
      rw [htk] at hu hc
      have hv : val (enc m) = zz m := val_sev 9 _ (zz_lt.2 hm)
      have hzl := zz_lt.2 hm
      rw [hv, m64_of hzl] at hu
      apply hc
      rw [← hu, uz_zz]
theorem take_f (l : List UInt8) (hl : l.length ≤ 9223372036854775800) (k : Nat) (hk : 80 ≤ k) : headgateref01_Take.f k (bs l) = some (takeR (dec l)) := by
  unfold headgateref01_Take.f
  obtain ⟨i, k', hk1, hk2, he, hi1, hi2, hall, hend⟩ := take_l0 l hl k 10 0 (by omega) (by omega) rfl (fun j hj => by omega) (by omega)
  rw [show (0 : Int) = ((0 : Nat) : Int) from rfl, he]
  have bad : (i = l.length ∨ i = 10) → dec l = none := by
    intro hb
    cases hd : dec l with
    | none => rfl
    | some p =>
      exfalso
      obtain ⟨n, r⟩ := p
      obtain ⟨rfl, hn⟩ := (dec_iff l n r).1 hd
      have ht := (sev_tops 9 (zz n) (zz_lt.2 hn)).2
      have hlen := enc_len n
      have h1 : (enc n).length - 1 < i := by
        rcases hb with hb | hb
        · rw [List.length_append] at hb; omega
        · omega
      have h2 := hall _ h1
      have h3 : (enc n ++ r).getD ((enc n).length - 1) 0 = (enc n).getD ((enc n).length - 1) 0 := by
        simp only [List.getD_eq_getElem?_getD]
        rw [List.getElem?_append_left (by omega)]
      rw [h3] at h2
      unfold enc at h2
      omega
  obtain ⟨k', rfl⟩ : ∃ q, k' = q + 1 := ⟨k' - 1, by omega⟩
  rw [headgateref01_Take.j1]
  obtain ⟨k', rfl⟩ : ∃ q, k' = q + 1 := ⟨k' - 1, by omega⟩
  by_cases hA : i = l.length
  · rw [if_pos (by rw [size_bs]; omega), headgateref01_Take.j2, if_pos rfl, bad (.inl hA)]
    rfl
  · rw [if_neg (by rw [size_bs]; omega), headgateref01_Take.j2]
    by_cases hB : i = 10
    · rw [if_pos (beq_iff_eq.mpr (by omega)), bad (.inr hB)]
      rfl
    · rw [if_neg (by rw [beq_iff_eq]; omega)]
      obtain ⟨hlt, h10, hlast⟩ : i < l.length ∧ i < 10 ∧ (l.getD i 0).toNat < 128 := by
        rcases hend with h | h | h
        · exact absurd h hA
        · exact absurd h hB
        · exact h
      obtain ⟨kk, hkk, hl1⟩ := take_l1' l i hlt h10 k' (by omega)
      rw [hl1]
      have hult := m64_lt (val (l.take (i + 1)))
      generalize hu : m64 (val (l.take (i + 1))) = u at hult
      have hfin := take_fin l hl i hlt h10 hall hlast kk hkk u hu
      rw [headgateref01_Take.l1, if_neg (by omega)]
      have hq : Int.tdiv (u : Int) 2 = ((u / 2 : Nat) : Int) := by rw [Int.tdiv_eq_ediv_of_nonneg (by omega)]; omega
      have hr : Int.tmod (u : Int) 2 = ((u % 2 : Nat) : Int) := by rw [Int.tmod_eq_emod_of_nonneg (by omega)]; omega
      rw [hq, hr]
      by_cases hodd : u % 2 = 1
      · rw [if_pos (by omega)]
        have e : wrap64 (wrap64 (-(wrap64 (IntKind.u64.wrap ((u / 2 : Nat) : Int)))) - 1) = uz u := by
          have h1 : IntKind.u64.wrap ((u / 2 : Nat) : Int) = ((u / 2 : Nat) : Int) := by rw [u64w]; omega
          rw [h1, w64 (x := ((u / 2 : Nat) : Int)) (by omega) (by omega), w64 (x := -((u / 2 : Nat) : Int)) (by omega) (by omega), w64 (by omega) (by omega)]
          unfold uz
          rw [if_pos hodd]
        rw [e]
        exact hfin
      · rw [if_neg (by omega)]
        have e : wrap64 (IntKind.u64.wrap ((u / 2 : Nat) : Int)) = uz u := by
          have h1 : IntKind.u64.wrap ((u / 2 : Nat) : Int) = ((u / 2 : Nat) : Int) := by rw [u64w]; omega
          rw [h1, w64 (x := ((u / 2 : Nat) : Int)) (by omega) (by omega)]
          unfold uz
          rw [if_neg hodd]
        rw [e]
        exact hfin
end Go.Proofs.Ytleongigmjhegaa.Vref
set_option linter.unusedVariables false
set_option linter.unusedSimpArgs false
namespace Go.Proofs.Ytleongigmjhegaa.Vp
open Go.RowKit Go.Proofs.Ytleongigmjhegaa.Vm Go.Proofs.Ytleongigmjhegaa.Vref Go.Proofs.Ytleongigmjhegaa.P Go.Proofs.YtleongigmjhegaaW.PrintWords
theorem take_eq (l : List UInt8) (h : l.length ≤ 9223372036854775807) : varint_Take.f (bs l) = some (takeR (dec l)) := by
  unfold varint_Take.f
  rw [size_bs, if_pos h, data_bs]
theorem takeR_1 (n : Int) (r : List UInt8) : (takeR (some (n, r))).1 = n := rfl
theorem takeR_2 (n : Int) (r : List UInt8) : (takeR (some (n, r))).2.1 = bs r := rfl
theorem takeR_3 (n : Int) (r : List UInt8) : (takeR (some (n, r))).2.2 = 0 := rfl
theorem takeR_n3 : (takeR none).2.2 = 2 := rfl
/-- So many numbers, with which bytes begin. -/
def decN : Nat → List UInt8 → Option (List Int × List UInt8)
  | 0, l => some ([], l)
  | n + 1, l => (dec l).bind fun p => (decN n p.2).map fun q => (p.1 :: q.1, q.2)
theorem decN_iff (n : Nat) : ∀ (l : List UInt8) (xs : List Int) (r : List UInt8), decN n l = some (xs, r) ↔ l = xs.flatMap enc ++ r ∧ xs.length = n ∧ ∀ x ∈ xs, I64 x := by
  induction n with
  | zero =>
    intro l xs r
    simp only [decN, Option.some.injEq, Prod.mk.injEq]
    constructor
    · rintro ⟨rfl, rfl⟩; simp
    · rintro ⟨h1, h2, -⟩
      obtain rfl := List.eq_nil_of_length_eq_zero h2
      simp at h1
      exact ⟨rfl, h1⟩
  | succ n ih =>
    intro l xs r
    simp only [decN, Option.bind_eq_some_iff, Option.map_eq_some_iff, Prod.exists, Prod.mk.injEq]
    constructor
    · rintro ⟨x, l', hd, ys, r', hn, rfl, rfl⟩
      obtain ⟨rfl, hx⟩ := (dec_iff _ _ _).1 hd
      obtain ⟨rfl, hl, hall⟩ := (ih _ _ _).1 hn
      refine ⟨by simp, by simp [hl], fun y hy => ?_⟩
      rcases List.mem_cons.1 hy with rfl | hy
      · exact hx
      · exact hall y hy
    · rintro ⟨rfl, h2, h3⟩
      cases xs with
      | nil => simp at h2
      | cons x ys =>
        have hx := h3 x (List.mem_cons_self ..)
        refine ⟨x, ys.flatMap enc ++ r, ?_, ys, r, (ih _ _ _).2 ⟨rfl, by simpa using h2, fun y hy => h3 y (List.mem_cons_of_mem _ hy)⟩, rfl, rfl⟩
        rw [List.flatMap_cons, List.append_assoc]
        exact dec_enc hx _
def allR : Option (List Int × List UInt8) → List Int × ByteArray × Int
  | some (a, b) => (a, bs b, 0)
  | none => ([], bs [], 2)
/-- What TakeAll tells. -/
def takeAllR (l : List UInt8) (n : Int) : List Int × ByteArray × Int := if n < 0 ∨ n > 64 then ([], bs [], 1) else allR (decN n.toNat l)
theorem takeAll_l0 (d : Nat) : ∀ (l : List UInt8) (acc : List Int) (n i : Int) (k : Nat), l.length ≤ 9223372036854775800 → 0 ≤ i → i ≤ n → n ≤ 64 → n - i = d → d < k → acc.length ≤ 64 - d →
    varint_TakeAll.l0 k (bs l) acc n i = some (allR ((decN d l).map fun q => (acc ++ q.1, q.2))) := by
  induction d with
  | zero =>
    intro l acc n i k hl h0 h1 h64 hd hk ha
    obtain ⟨k, rfl⟩ : ∃ m, k = m + 1 := ⟨k - 1, by omega⟩
    rw [varint_TakeAll.l0, if_neg (by omega)]
    simp [decN, allR]
  | succ d ih =>
    intro l acc n i k hl h0 h1 h64 hd hk ha
    obtain ⟨k, rfl⟩ : ∃ m, k = m + 1 := ⟨k - 1, by omega⟩
    rw [varint_TakeAll.l0, if_pos (by omega), take_eq l (by omega), Option.bind_some]
    cases hdc : dec l with
    | none =>
      rw [takeR_n3, if_neg (by decide)]
      simp only [decN, hdc]
      rfl
    | some p =>
      obtain ⟨x, r⟩ := p
      have hr := (dec_iff _ _ _).1 hdc
      have hrl : r.length ≤ l.length := by rw [hr.1, List.length_append]; omega
      rw [takeR_1, takeR_2, takeR_3, if_pos rfl, if_pos (by omega), w64 (by omega) (by omega), ih r (acc ++ [x]) n (i + 1) k (by omega) (by omega) (by omega) h64 (by omega) (by omega) (by rw [List.length_append, List.length_singleton]; omega)]
      simp only [decN, hdc, Option.bind_some, Option.map_map]
      congr 2
      cases decN d r <;> simp
theorem rtakeAll_l0 (d : Nat) : ∀ (l : List UInt8) (acc : List Int) (n i : Int) (k : Nat), l.length ≤ 9223372036854775800 → 0 ≤ i → i ≤ n → n ≤ 64 → n - i = d → d + 80 < k → acc.length ≤ 64 - d →
    headgateref01_TakeAll.l0 k (bs l) n acc i = some (allR ((decN d l).map fun q => (acc ++ q.1, q.2))) := by
  induction d with
  | zero =>
    intro l acc n i k hl h0 h1 h64 hd hk ha
    obtain ⟨k, rfl⟩ : ∃ m, k = m + 1 := ⟨k - 1, by omega⟩
    rw [headgateref01_TakeAll.l0, if_neg (by omega)]
    simp [decN, allR]
  | succ d ih =>
    intro l acc n i k hl h0 h1 h64 hd hk ha
    obtain ⟨k, rfl⟩ : ∃ m, k = m + 1 := ⟨k - 1, by omega⟩
    rw [headgateref01_TakeAll.l0, if_pos (by omega), take_f l (by omega) k (by omega), Option.bind_some]
    cases hdc : dec l with
    | none =>
      rw [takeR_n3, if_neg (by decide)]
      simp only [decN, hdc]
      rfl
    | some p =>
      obtain ⟨x, r⟩ := p
      have hr := (dec_iff _ _ _).1 hdc
      have hrl : r.length ≤ l.length := by rw [hr.1, List.length_append]; omega
      rw [takeR_1, takeR_2, takeR_3, if_pos rfl, if_pos (by omega), w64 (by omega) (by omega), ih r (acc ++ [x]) n (i + 1) k (by omega) (by omega) (by omega) h64 (by omega) (by omega) (by rw [List.length_append, List.length_singleton]; omega)]
      simp only [decN, hdc, Option.bind_some, Option.map_map]
      congr 2
      cases decN d r <;> simp
theorem takeAll_eq (l : List UInt8) (hl : l.length ≤ 9223372036854775800) (n : Int) (k : Nat) (hk : 200 ≤ k) : varint_TakeAll.f k (bs l) n = some (takeAllR l n) := by
  obtain ⟨k, rfl⟩ : ∃ m, k = m + 1 := ⟨k - 1, by omega⟩
  unfold varint_TakeAll.f takeAllR
  rw [varint_TakeAll.j0, if_pos rfl, varint_TakeAll.j0]
  by_cases h0 : n < 0
  · rw [if_pos h0, if_pos (.inl h0)]; rfl
  · rw [if_neg h0]
    by_cases h1 : n > 64
    · rw [if_pos (decide_eq_true h1), if_pos (.inr h1)]; rfl
    · rw [if_neg (by rw [decide_eq_true_eq]; exact h1), if_neg (by omega), takeAll_l0 n.toNat l [] n 0 k hl (by omega) (by omega) (by omega) (by omega) (by omega) (by simp)]
      congr 2
      cases decN n.toNat l <;> simp
theorem rtakeAll_eq (l : List UInt8) (hl : l.length ≤ 9223372036854775800) (n : Int) (k : Nat) (hk : 200 ≤ k) : headgateref01_TakeAll.f k (bs l) n = some (takeAllR l n) := by
  obtain ⟨k, rfl⟩ : ∃ m, k = m + 1 := ⟨k - 1, by omega⟩
  unfold headgateref01_TakeAll.f takeAllR
  rw [headgateref01_TakeAll.j0, if_pos rfl, headgateref01_TakeAll.j0]
  by_cases h0 : n < 0
  · rw [if_pos h0, if_pos (.inl h0)]; rfl
  · rw [if_neg h0]
    by_cases h1 : n > 64
    · rw [if_pos (decide_eq_true h1), if_pos (.inr h1)]; rfl
    · rw [if_neg (by rw [decide_eq_true_eq]; exact h1), if_neg (by omega), rtakeAll_l0 n.toNat l [] n 0 k hl (by omega) (by omega) (by omega) (by omega) (by omega) (by simp)]
      congr 2
      cases decN n.toNat l <;> simp
theorem putAll_eq (l : List Int) (hl : l.length ≤ 1099511627776) (h : ∀ x ∈ l, I64 x) : varint_PutAll.f l = some (bs (l.flatMap enc)) := if_pos ⟨hl, h⟩
theorem rall_l0 (l : List Int) (hl : l.length ≤ 1099511627776) (h : ∀ x ∈ l, I64 x) (d : Nat) : ∀ (i k : Nat), i ≤ l.length → l.length - i = d → d + 20 < k →
    headgateref01_All.l0 k l (bs ((l.take i).flatMap enc)) (i : Int) = some (bs (l.flatMap enc)) := by
  induction d with
  | zero =>
    intro i k hi hd hk
    obtain ⟨k, rfl⟩ : ∃ m, k = m + 1 := ⟨k - 1, by omega⟩
    obtain rfl : i = l.length := by omega
    rw [headgateref01_All.l0, if_neg (by omega), List.take_length]
  | succ d ih =>
    intro i k hi hd hk
    obtain ⟨k, rfl⟩ : ∃ m, k = m + 1 := ⟨k - 1, by omega⟩
    have hlt : i < l.length := by omega
    have hx : I64 (rd l (i : Int)) := h _ (by simp [rd, List.getD_eq_getElem?_getD, List.getElem?_eq_getElem hlt])
    have hlen := varint_PutAll.len (l.take i)
    have hlt2 := List.length_take_le i l
    have he := (enc_len (rd l (i : Int))).2
    rw [headgateref01_All.l0, if_pos (by omega), if_pos (by omega), put_f _ hx k (by omega), Option.bind_some, if_pos (by rw [size_bs, size_bs]; omega), append_bs, ← varint_PutAll.snoc l i hlt, w64 (by omega) (by omega)]
    exact ih (i + 1) k (by omega) (by omega) (by omega)
theorem rall_eq (l : List Int) (hl : l.length ≤ 1099511627776) (h : ∀ x ∈ l, I64 x) (k : Nat) (hk : l.length + 20 < k) : headgateref01_All.f k l = some (bs (l.flatMap enc)) := by
  unfold headgateref01_All.f
  exact rall_l0 l hl h l.length 0 k (by omega) (by omega) hk
end Go.Proofs.Ytleongigmjhegaa.Vp
set_option linter.unusedVariables false
set_option linter.unusedSimpArgs false
namespace Go.Proofs.Ytleongigmjhegaa.Tn
open Go.RowKit Go.Proofs.Ytleongigmjhegaa.P Go.Proofs.YtleongigmjhegaaW.PrintWords Go.Proofs.YtleongigmjhegaaW.PrintLast Go.Proofs.YtleongigmjhegaaW.PrintMore
theorem w64 {x : Int} (h0 : -9223372036854775808 ≤ x) (h1 : x ≤ 9223372036854775807) : wrap64 x = x := by unfold wrap64; omega
theorem rd24_at (s : List S24) (j : Nat) (h : j < s.length) : rd_T24 s (j : Int) = s[j] := by
  simp [rd_T24, List.getD_eq_getElem?_getD, List.getElem?_eq_getElem h]
theorem behind_step (x0 : List S24) (rows : List S27) (j : Nat) (h : j < x0.length) (h2 : j < 100) (k : Nat) (r : List S27 × Int) (hr : txn_Fold.f rows x0[j].f0 x0[j].f1 x0[j].f2 = some r) :
    headgatelaw12_behind.l0 (k + 2) x0 rows (j : Int) = headgatelaw12_behind.l0 k x0 (if r.2 = 0 then r.1 else rows) ((j + 1 : Nat) : Int) := by
  have e1 : wrap64 ((j : Int) + 1) = ((j + 1 : Nat) : Int) := by rw [w64 (by omega) (by omega)]; omega
  rw [headgatelaw12_behind.l0, if_pos (by omega), decide_eq_true (by omega), headgatelaw12_behind.j1, if_pos rfl, if_pos (by omega), if_pos (by omega), rd24_at x0 j h, hr, Option.bind_some, e1]
  split <;> rfl
theorem behind_end (x0 : List S24) (rows : List S27) (j : Nat) (h : x0.length ≤ j ∨ 100 ≤ j) (k : Nat) : headgatelaw12_behind.l0 (k + 2) x0 rows (j : Int) = some rows := by
  rw [headgatelaw12_behind.l0]
  split
  · rw [decide_eq_false (by omega), headgatelaw12_behind.j1, if_neg (by decide)]
  · rw [headgatelaw12_behind.j1, if_neg (by decide)]
theorem awake_20 : headgatelaw12_awake.f 20 = some true := by
  have e1 : txn_Fold.f [] 1 1 0 = some ([⟨1, 1, 1, 0, 0⟩], 0) := by rfl
  have e2 : txn_Fold.f [⟨1, 1, 1, 0, 0⟩] 2 1 5 = some ([⟨1, 1, 2, 5, 0⟩], 0) := by rfl
  have e3 : txn_Fold.f [⟨1, 1, 2, 5, 0⟩] 3 1 0 = some ([⟨1, 1, 3, 5, 0⟩], 0) := by rfl
  have e4 : txn_Fold.f [⟨1, 1, 3, 5, 0⟩] 5 1 0 = some ([⟨1, 2, 1, 0, 3⟩], 0) := by rfl
  unfold headgatelaw12_awake.f headgatelaw12_behind.f
  rw [show (0 : Int) = ((0 : Nat) : Int) from rfl, behind_step _ _ 0 (by decide) (by omega) 18 _ e1, if_pos rfl, behind_step _ _ 1 (by decide) (by omega) 16 _ e2, if_pos rfl, behind_step _ _ 2 (by decide) (by omega) 14 _ e3, if_pos rfl, behind_step _ _ 3 (by decide) (by omega) 12 _ e4, if_pos rfl, behind_end _ _ 4 (.inl (by decide)) 10, Option.bind_some]
  rfl
theorem awake_eq (k : Nat) (hk : 20 ≤ k) : headgatelaw12_awake.f k = some true :=
  at_rounds (g := headgatelaw12_awake.f) headgatelaw12_awake.mono hk awake_20
end Go.Proofs.Ytleongigmjhegaa.Tn
set_option linter.unusedVariables false
namespace Go.Proofs.Ytleongigmjhegaa.Pure
open Go.RowKit Go.Proofs.Ytleongigmjhegaa.Vm Go.Proofs.Ytleongigmjhegaa.Vref Go.Proofs.Ytleongigmjhegaa.Vp Go.Proofs.Ytleongigmjhegaa.P Go.Proofs.YtleongigmjhegaaW.PrintWords Go.Proofs.YtleongigmjhegaaW.PrintLast Go.Proofs.YtleongigmjhegaaW.PrintMore
def mayN (k p q : Int) : Bool := decide ((1 ≤ p ∧ p ≤ 8) ∧ 1 ≤ k ∧ k ≤ 5 ∧ (k = 2 → 1 ≤ q ∧ q < 8192) ∧ (k ≠ 2 → q = 0))
theorem mayN_iff {k p q : Int} : mayN k p q = true ↔ ((1 ≤ p ∧ p ≤ 8) ∧ 1 ≤ k ∧ k ≤ 5 ∧ (k = 2 → 1 ≤ q ∧ q < 8192) ∧ (k ≠ 2 → q = 0)) := by unfold mayN; exact decide_eq_true_iff
theorem check_eq (k p q : Int) : txn_Check.f k p q = some (if mayN k p q = true then 0 else 1) := by
  unfold txn_Check.f
  by_cases h : mayN k p q = true
  · rw [if_pos h, if_pos (mayN_iff.1 h)]
  · rw [if_neg h, if_neg (fun h2 => h (mayN_iff.2 h2))]
theorem rmay_eq (k p q : Int) (r : Nat) (hr : 2 ≤ r) : headgateref12_May.f r k p q = some (mayN k p q) := by
  obtain ⟨r, rfl⟩ : ∃ m, r = m + 1 := ⟨r - 1, by omega⟩
  have no : ¬ ((1 ≤ p ∧ p ≤ 8) ∧ 1 ≤ k ∧ k ≤ 5 ∧ (k = 2 → 1 ≤ q ∧ q < 8192) ∧ (k ≠ 2 → q = 0)) → some false = some (mayN k p q) := fun h => by unfold mayN; rw [decide_eq_false h]
  have hjt : headgateref12_May.j0 (r + 1) true k p q = some false := by rw [headgateref12_May.j0, if_pos rfl]
  unfold headgateref12_May.f
  by_cases h1 : p < 1
  · rw [if_pos h1, hjt]; exact no (by omega)
  · rw [if_neg h1]
    by_cases h2 : p > 8
    · rw [if_pos h2, hjt]; exact no (by omega)
    · rw [if_neg h2]
      by_cases h3 : k < 1
      · rw [if_pos h3, hjt]; exact no (by omega)
      · rw [if_neg h3]
        by_cases h4 : k > 5
        · rw [decide_eq_true h4, hjt]; exact no (by omega)
        · rw [decide_eq_false h4, headgateref12_May.j0, if_neg (by decide)]
          by_cases h5 : k = 2
          · rw [if_pos h5]
            by_cases h6 : q ≥ 1
            · rw [if_pos h6]
              unfold mayN
              congr 1
              rw [decide_eq_decide]
              exact ⟨fun h => ⟨by omega, by omega, by omega, fun _ => ⟨h6, h⟩, fun h => (h h5).elim⟩, fun h => (h.2.2.2.1 h5).2⟩
            · rw [if_neg h6]; exact no (fun h => h6 (h.2.2.2.1 h5).1)
          · rw [if_neg h5]
            unfold mayN
            congr 1
            by_cases h6 : q = 0
            · rw [beq_iff_eq.2 h6, decide_eq_true ⟨by omega, by omega, by omega, fun h => (h5 h).elim, fun _ => h6⟩]
            · rw [beq_eq_false_iff_ne.2 h6, decide_eq_false (fun h => h6 (h.2.2.2.2 h5))]
def encN (k p q : Int) : ByteArray × Int := if mayN k p q = true then (bs ([k, p, q].flatMap enc), 0) else (bs [], 1)
theorem i64_3 {k p q : Int} (h : mayN k p q = true) : ∀ x ∈ [k, p, q], I64 x := by
  have h := mayN_iff.1 h
  intro x hx
  unfold I64
  simp only [List.mem_cons, List.not_mem_nil, or_false] at hx
  rcases hx with rfl | rfl | rfl
  · omega
  · omega
  · by_cases c : k = 2
    · have := h.2.2.2.1 c; omega
    · have := h.2.2.2.2 c; omega
theorem encode_eq (k p q : Int) : txn_Encode.f k p q = some (encN k p q) := by
  unfold txn_Encode.f encN
  rw [check_eq, Option.bind_some]
  by_cases h : mayN k p q = true
  · rw [if_pos h, if_pos rfl, if_pos h, putAll_eq _ (by simp) (i64_3 h), Option.bind_some]
  · rw [if_neg h, if_neg (by decide), if_neg h]; rfl
theorem rencode_eq (k p q : Int) (r : Nat) (hr : 40 ≤ r) : headgateref12_Encode.f r k p q = some (encN k p q) := by
  unfold headgateref12_Encode.f encN
  rw [rmay_eq k p q r (by omega), Option.bind_some]
  by_cases h : mayN k p q = true
  · rw [if_pos h, if_pos h, rall_eq _ (by simp) (i64_3 h) r (by simp; omega), Option.bind_some]
  · rw [if_neg h, if_neg h]; rfl
/-- What bytes are. -/
def decV (l : List UInt8) : Int × Int × Int × Int := match decN 3 l with
  | some (xs, r) => if r = [] ∧ mayN (rd xs 0) (rd xs 1) (rd xs 2) = true then (rd xs 0, rd xs 1, rd xs 2, 0) else (0, 0, 0, 2)
  | none => (0, 0, 0, 2)
theorem take3 (l : List UInt8) : takeAllR l 3 = allR (decN 3 l) := by
  unfold takeAllR; rw [if_neg (by decide)]; rfl
theorem three {l : List UInt8} {xs : List Int} {r : List UInt8} (h : decN 3 l = some (xs, r)) : xs.length = 3 := ((decN_iff 3 l xs r).1 h).2.1
theorem decode_eq (l : List UInt8) (hl : l.length ≤ 9000000000000000000) (k : Nat) (hk : 300 ≤ k) : txn_Decode.f k (bs l) = some (decV l) := by
  obtain ⟨k, rfl⟩ : ∃ m, k = m + 1 := ⟨k - 1, by omega⟩
  have hjt : ∀ xs, txn_Decode.j0 (k + 1) xs true = some (0, 0, 0, 2) := fun xs => by rw [txn_Decode.j0, if_pos rfl]
  unfold txn_Decode.f decV
  rw [takeAll_eq l (by omega) 3 (k + 1) (by omega), Option.bind_some, take3]
  cases hd : decN 3 l with
  | none => exact hjt []
  | some q =>
    obtain ⟨xs, r⟩ := q
    have h3 := three hd
    show (if (0 : Int) = 0 then txn_Decode.j0 (k + 1) xs ((bs r).toList != []) else _) = _
    rw [if_pos rfl, toList_bs]
    dsimp only
    by_cases hr : r = []
    · subst hr
      rw [show (([] : List UInt8) != []) = false from rfl, txn_Decode.j0, if_neg (by decide), if_pos (by omega), if_pos (by omega), if_pos (by omega), check_eq, Option.bind_some]
      by_cases hm : mayN (rd xs 0) (rd xs 1) (rd xs 2) = true
      · rw [if_pos hm, if_pos rfl, if_pos ⟨rfl, hm⟩]
      · rw [if_neg hm, if_neg (by decide), if_neg (fun h => hm h.2)]
    · rw [show (r != []) = true from bne_iff_ne.2 hr, hjt, if_neg (fun h => hr h.1)]
theorem rdecode_eq (l : List UInt8) (hl : l.length ≤ 9000000000000000000) (k : Nat) (hk : 300 ≤ k) : headgateref12_Decode.f k (bs l) = some (decV l) := by
  obtain ⟨k, rfl⟩ : ∃ m, k = m + 1 := ⟨k - 1, by omega⟩
  have hjt : ∀ xs, headgateref12_Decode.j0 (k + 1) xs true = some (0, 0, 0, 2) := fun xs => by rw [headgateref12_Decode.j0, if_pos rfl]
  unfold headgateref12_Decode.f decV
  rw [rtakeAll_eq l (by omega) 3 (k + 1) (by omega), Option.bind_some, take3]
  cases hd : decN 3 l with
  | none => exact hjt []
  | some q =>
    obtain ⟨xs, r⟩ := q
    have h3 := three hd
    show (if (0 : Int) = 0 then headgateref12_Decode.j0 (k + 1) xs (decide (((bs r).size : Int) > 0)) else _) = _
    rw [if_pos rfl, size_bs]
    dsimp only
    by_cases hr : r = []
    · subst hr
      rw [show decide ((([] : List UInt8).length : Int) > 0) = false from rfl, headgateref12_Decode.j0, if_neg (by decide), if_pos (by omega), if_pos (by omega), if_pos (by omega), rmay_eq _ _ _ k (by omega), Option.bind_some]
      by_cases hm : mayN (rd xs 0) (rd xs 1) (rd xs 2) = true
      · rw [if_pos hm, if_pos ⟨rfl, hm⟩]
      · rw [if_neg hm, if_neg (fun h => hm h.2)]
    · rw [show decide ((r.length : Int) > 0) = true from decide_eq_true (by have := List.length_pos_iff.2 hr; omega), hjt, if_neg (fun h => hr h.1)]
theorem list3 {xs : List Int} (h : xs.length = 3) : xs = [rd xs 0, rd xs 1, rd xs 2] := by
  match xs, h with
  | [a, b, c], _ => rfl
/-- What is read was laid so. -/
theorem dec_only {l : List UInt8} {a b c : Int} (h : decV l = (a, b, c, 0)) : encN a b c = (bs l, 0) := by
  unfold decV at h
  cases hd : decN 3 l with
  | none => rw [hd] at h; simp at h
  | some q =>
    obtain ⟨xs, r⟩ := q
    rw [hd] at h
    dsimp only at h
    split at h
    · rename_i hc
      obtain ⟨hl, h3, _⟩ := (decN_iff 3 l xs r).1 hd
      simp only [Prod.mk.injEq] at h
      obtain ⟨rfl, rfl, rfl, _⟩ := h
      unfold encN
      rw [if_pos hc.2, ← list3 h3, hl, hc.1, List.append_nil]
    · simp at h
/-- What was laid is read. -/
theorem dec_enc3 {a b c : Int} (h : mayN a b c = true) : decV ([a, b, c].flatMap enc) = (a, b, c, 0) := by
  have hd : decN 3 ([a, b, c].flatMap enc) = some ([a, b, c], []) := (decN_iff 3 _ _ _).2 ⟨(List.append_nil _).symm, rfl, i64_3 h⟩
  unfold decV
  rw [hd]
  exact if_pos ⟨rfl, h⟩
theorem len3 (a b c : Int) : ([a, b, c].flatMap enc).length ≤ 30 := by
  have h1 := (enc_len a).2; have h2 := (enc_len b).2; have h3 := (enc_len c).2
  simp only [List.flatMap_cons, List.flatMap_nil, List.length_append, List.length_nil]
  omega
theorem TxnCodes : headgatelaw12_TxnCodes.Pure := by
  intro a b c s ha hb hc hs
  obtain ⟨l, rfl⟩ := bs_of s
  refine ⟨1000, ?_⟩
  unfold headgatelaw12_TxnCodes.f
  by_cases h : ((bs l).size : Int) > 1000
  · rw [if_pos h, Tn.awake_eq _ (by omega), Option.bind_some]
  · rw [if_neg h]
    rw [size_bs] at h
    rw [encode_eq, Option.bind_some, rencode_eq _ _ _ 1000 (by omega), Option.bind_some, decode_eq l (by omega) 1000 (by omega), Option.bind_some, rdecode_eq l (by omega) 1000 (by omega), Option.bind_some, if_pos rfl, if_pos rfl, if_neg (by simp), if_pos rfl, check_eq, Option.bind_some]
    have hne : ((if mayN a b c = true then (0 : Int) else 1) != (encN a b c).2) = false := by
      unfold encN
      split <;> rfl
    have hj1 : headgatelaw12_TxnCodes.j1 999 (encN a b c).1 (encN a b c).2 a b c = some true := by
      rw [show 999 = 998 + 1 from rfl, headgatelaw12_TxnCodes.j1]
      by_cases hm : mayN a b c = true
      · have he : encN a b c = (bs ([a, b, c].flatMap enc), 0) := if_pos hm
        have hl := len3 a b c
        rw [he, if_pos rfl]
        dsimp only
        rw [decode_eq _ (by omega) 998 (by omega), Option.bind_some, dec_enc3 hm, if_pos (by simp), if_pos rfl, Tn.awake_eq _ (by omega), Option.bind_some]
      · have he : encN a b c = (bs [], 1) := if_neg hm
        rw [he, if_neg (by decide), Tn.awake_eq _ (by omega), Option.bind_some]
    rw [hne, show 1000 = 999 + 1 from rfl, headgatelaw12_TxnCodes.j0, if_neg (by decide)]
    by_cases hd : (decV l).2.2.2 = 0
    · rw [if_pos hd, encode_eq, Option.bind_some, dec_only (show decV l = ((decV l).1, (decV l).2.1, (decV l).2.2.1, 0) by rw [← hd])]
      rw [if_pos rfl, if_pos rfl]
      exact hj1
    · rw [if_neg hd]; exact hj1
end Go.Proofs.Ytleongigmjhegaa.Pure
