/- The reference's numbers (headgateref01): each of its functions comes to the plain law's words. -/
import Derived.Test.YthmckblcckcaaaaPx13
import Derived.Test.YthmckblcckcaaaaPx14
import Derived.Test.YthmckblcckcaaaaVm
import Derived.Laws.Bits64
set_option linter.unusedVariables false
set_option linter.unusedSimpArgs false
namespace Go.Proofs.Ythmckblcckcaaaa.Vref
open Go.RowKit Go.Proofs.Ythmckblcckcaaaa.Vm Go.Proofs.Ythmckblcckcaaaa.P Go.Proofs.YthmckblcckcaaaaW.PrintWords

theorem u64w (n : Int) : IntKind.u64.wrap n = n % 18446744073709551616 := IntKind.wrap_u64 n
theorem w64 {x : Int} (h0 : -9223372036854775808 ≤ x) (h1 : x ≤ 9223372036854775807) : wrap64 x = x := by unfold wrap64; omega
theorem empty_bs : (⟨#[]⟩ : ByteArray) = bs [] := rfl
def toB (xs : List Int) : List UInt8 := xs.map fun n => UInt8.ofNat n.toNat
theorem toB_snoc (xs : List Int) (n : Int) : toB (xs ++ [n]) = toB xs ++ [UInt8.ofNat n.toNat] := by simp [toB]
theorem strOfNums_snoc (xs : List Int) (n : Int) : strOfNums (xs ++ [n]) = bs (toB xs ++ [UInt8.ofNat n.toNat]) := by rw [strOfNums_bs]; simp [toB]

theorem put_l0 (f : Nat) : ∀ (u k : Nat) (acc : List Int), u < 2 * 128 ^ f → f ≤ 9 → f < k → acc.length + f < 100 →
    headgateref01_Put.l0 k (u : Int) acc = some (bs (toB acc ++ sev f u)) := by
  induction f with
  | zero =>
    intro u k acc hu _ hk hl
    obtain ⟨k, rfl⟩ : ∃ m, k = m + 1 := ⟨k - 1, by omega⟩
    simp only [headgateref01_Put.l0]
    rw [if_neg (by omega), if_pos (by omega), strOfNums_snoc]
    have : ((u : Int) % 256).toNat = u := by omega
    rw [this]
    rfl
  | succ f ih =>
    intro u k acc hu hf hk hl
    have hs : 2 * 128 ^ (f + 1) = 128 * (2 * 128 ^ f) := by rw [Nat.pow_succ]; omega
    have hmax : 2 * 128 ^ (f + 1) ≤ 18446744073709551616 := by
      have : 128 ^ (f + 1) ≤ 128 ^ 9 := Nat.pow_le_pow_right (by decide) hf
      omega
    obtain ⟨k, rfl⟩ : ∃ m, k = m + 1 := ⟨k - 1, by omega⟩
    simp only [headgateref01_Put.l0]
    unfold sev
    by_cases h : u < 128
    · rw [if_neg (by omega), if_pos (by omega), strOfNums_snoc, if_pos h]
      have : ((u : Int) % 256).toNat = u := by omega
      rw [this]
    · rw [if_pos (by omega), if_pos (by omega), if_neg h]
      have e1 : IntKind.u64.wrap (Int.tdiv (u : Int) 128) = ((u / 128 : Nat) : Int) := by
        rw [Int.tdiv_eq_ediv_of_nonneg (by omega), u64w]; omega
      have e2 : ((IntKind.u64.wrap (Int.tmod (u : Int) 128 + 128)) % 256).toNat = u % 128 + 128 := by
        rw [Int.tmod_eq_emod_of_nonneg (by omega), u64w]; omega
      rw [e1, ih (u / 128) k _ (by omega) (by omega) (by omega) (by simp; omega), toB_snoc, e2]
      simp
theorem put_f (n : Int) (hn : I64 n) (k : Nat) (hk : 12 ≤ k) : headgateref01_Put.f k n = some (bs (enc n)) := by
  have hz := zz_lt.2 hn
  obtain ⟨k, rfl⟩ : ∃ m, k = m + 1 := ⟨k - 1, by omega⟩
  unfold I64 at hn
  unfold headgateref01_Put.f
  split
  · rename_i h
    have e : IntKind.u64.wrap (IntKind.u64.wrap (IntKind.u64.wrap (wrap64 (-(wrap64 (n + 1)))) * 2) + 1) = ((zz n : Nat) : Int) := by
      unfold wrap64 zz; rw [if_pos h]; simp only [u64w]; omega
    rw [e]
    simp only [headgateref01_Put.j0]
    exact put_l0 9 _ _ _ hz (by omega) (by omega) (by simp)
  · rename_i h
    have e : IntKind.u64.wrap (IntKind.u64.wrap n * 2) = ((zz n : Nat) : Int) := by
      unfold zz; rw [if_neg h]; simp only [u64w]; omega
    rw [e]
    simp only [headgateref01_Put.j0]
    exact put_l0 9 _ _ _ hz (by omega) (by omega) (by simp)

/-- What bytes' sevens come to, the first byte the lowest. -/
def m64 (n : Nat) : Nat := n % 18446744073709551616
theorem m64_lt (n : Nat) : m64 n < 18446744073709551616 := Nat.mod_lt _ (by decide)
theorem m64_of {n : Nat} (h : n < 18446744073709551616) : m64 n = n := Nat.mod_eq_of_lt h
def val : List UInt8 → Nat
  | [] => 0
  | c :: t => c.toNat % 128 + 128 * val t
theorem val_sev (f : Nat) : ∀ u, u < 2 * 128 ^ f → val (sev f u) = u := by
  induction f with
  | zero => intro u hu; simp [sev, val, toNat_ofNat_lt (show u < 256 by omega)]; omega
  | succ f ih =>
    intro u hu
    have hs : 2 * 128 ^ (f + 1) = 128 * (2 * 128 ^ f) := by rw [Nat.pow_succ]; omega
    unfold sev
    split
    · rename_i h; simp [val, toNat_ofNat_lt (show u < 256 by omega)]; omega
    · simp only [val]; rw [ih _ (by omega), toNat_ofNat_lt (by omega)]; omega
/-- All bytes of a number but its last one are 128 or more; its last one is less. -/
theorem sev_tops (f : Nat) : ∀ u, u < 2 * 128 ^ f → (∀ i, i + 1 < (sev f u).length → 128 ≤ ((sev f u).getD i 0).toNat) ∧ ((sev f u).getD ((sev f u).length - 1) 0).toNat < 128 := by
  induction f with
  | zero => intro u hu; simp [sev, toNat_ofNat_lt (show u < 256 by omega)]; omega
  | succ f ih =>
    intro u hu
    have hs : 2 * 128 ^ (f + 1) = 128 * (2 * 128 ^ f) := by rw [Nat.pow_succ]; omega
    unfold sev
    split
    · rename_i h; simp [toNat_ofNat_lt (show u < 256 by omega)]; omega
    · obtain ⟨h1, h2⟩ := ih (u / 128) (by omega)
      have hl := (sev_len f (u / 128)).1
      constructor
      · intro i hi
        cases i with
        | zero => simp only [List.getD_cons_zero]; rw [toNat_ofNat_lt (by omega)]; omega
        | succ i => simp only [List.getD_cons_succ]; exact h1 i (by simpa using hi)
      · obtain ⟨m, hm⟩ : ∃ m, (sev f (u / 128)).length = m + 1 := ⟨_, (Nat.sub_add_cancel hl).symm⟩
        simp only [List.length_cons, Nat.add_sub_cancel]
        rw [hm]
        simp only [List.getD_cons_succ]
        rw [hm] at h2
        exact h2

theorem bt_bs (l : List UInt8) (i : Nat) (h : i < l.length) : bt (bs l) (i : Int) = ((l.getD i 0).toNat : Int) := by
  unfold bt
  rw [dif_pos (by simpa using h)]
  simp only [Int.toNat_natCast]
  rw [List.getD_eq_getElem?_getD, List.getElem?_eq_getElem h]
  rfl

/-- Where the scan stops: at the first byte below 128, at the end, or behind ten. -/
theorem take_l0 (l : List UInt8) (hl : l.length ≤ 9223372036854775800) (k : Nat) : ∀ (d i : Nat), i ≤ l.length → i ≤ 10 → d = 10 - i → (∀ j : Nat, j < i → 128 ≤ (l.getD j 0).toNat) → d < k →
    ∃ i' k' : Nat, k' + d + 1 ≥ k ∧ k' < k ∧ headgateref01_Take.l0 k (bs l) (i : Int) = headgateref01_Take.j1 k' (bs l) (i' : Int) ∧ i' ≤ l.length ∧ i' ≤ 10 ∧ (∀ j : Nat, j < i' → 128 ≤ (l.getD j 0).toNat) ∧ (i' = l.length ∨ i' = 10 ∨ (i' < l.length ∧ i' < 10 ∧ (l.getD i' 0).toNat < 128)) := by
  induction k with
  | zero => intro d i _ _ _ _ hk; omega
  | succ k ih =>
    intro d i h1 h2 hd hall hk
    simp only [headgateref01_Take.l0]
    by_cases hlt : i < l.length
    · rw [if_pos (by simp; omega)]
      by_cases h10 : i < 10
      · rw [if_pos (by omega), if_pos (by omega), bt_bs l i hlt]
        by_cases hb : 128 ≤ (l.getD i 0).toNat
        · rw [if_pos (by omega)]
          have e : wrap64 ((i : Int) + 1) = ((i + 1 : Nat) : Int) := by unfold wrap64; omega
          rw [e]
          obtain ⟨i', k', ha, hb', hc, hr⟩ := ih (d - 1) (i + 1) (by omega) (by omega) (by omega) (fun j hj => by
            rcases Nat.lt_or_ge j i with h | h
            · exact hall j h
            · obtain rfl : j = i := by omega
              exact hb) (by omega)
          exact ⟨i', k', by omega, by omega, hc, hr⟩
        · rw [if_neg (by omega)]
          exact ⟨i, k, by omega, by omega, rfl, h1, h2, hall, .inr (.inr ⟨hlt, h10, by omega⟩)⟩
      · rw [if_neg (by omega)]
        exact ⟨i, k, by omega, by omega, rfl, h1, h2, hall, .inr (.inl (by omega))⟩
    · rw [if_neg (by simp; omega)]
      exact ⟨i, k, by omega, by omega, rfl, h1, h2, hall, .inl (by omega)⟩

theorem val_drop (t : List UInt8) (m : Nat) (h : m < t.length) : val (t.drop m) = (t.getD m 0).toNat % 128 + 128 * val (t.drop (m + 1)) := by
  rw [List.drop_eq_getElem_cons h, val, List.getD_eq_getElem?_getD, List.getElem?_eq_getElem h]
  rfl
theorem l1_round (k : Nat) (x0 : ByteArray) (x5 x6 x7 : Int) (h0 : 0 ≤ x7) (h1 : x7 < (x0.size : Int)) : headgateref01_Take.l1 (k + 1) x0 x5 x6 x7 = headgateref01_Take.l1 k x0 x5 (IntKind.u64.wrap ((IntKind.u64.wrap (x6 * 128)) + (Int.tmod (IntKind.u64.wrap (bt x0 x7)) 128))) (wrap64 (x7 - 1)) := by
  rw [headgateref01_Take.l1, if_pos h0, if_pos h0, if_pos h1]
theorem take_l1 (l : List UInt8) (x5 : Nat) (hx : x5 < l.length) (h10 : x5 < 10) : ∀ (m k : Nat), m ≤ x5 + 1 → m + 20 ≤ k →
    ∃ k', 12 ≤ k' ∧ headgateref01_Take.l1 k (bs l) (x5 : Int) ((m64 (val ((l.take (x5 + 1)).drop m)) : Nat) : Int) ((m : Int) - 1) = headgateref01_Take.l1 (k' + 1) (bs l) (x5 : Int) ((m64 (val (l.take (x5 + 1))) : Nat) : Int) (-1) := by
  intro m
  induction m with
  | zero =>
    intro k _ hk
    obtain ⟨k, rfl⟩ : ∃ q, k = q + 1 := ⟨k - 1, by omega⟩
    refine ⟨k, by omega, ?_⟩
    rw [List.drop_zero, show ((0 : Nat) : Int) - 1 = -1 by omega]
  | succ m ih =>
    intro k hm hk
    obtain ⟨k, rfl⟩ : ∃ q, k = q + 1 := ⟨k - 1, by omega⟩
    obtain ⟨k', h1, h2⟩ := ih k (by omega) (by omega)
    refine ⟨k', h1, ?_⟩
    rw [← h2]
    have hlen : (l.take (x5 + 1)).length = x5 + 1 := by simp; omega
    have hg : (l.take (x5 + 1)).getD m 0 = l.getD m 0 := by
      simp only [List.getD_eq_getElem?_getD]
      rw [List.getElem?_take_of_lt (by omega)]
    have hv := val_drop (l.take (x5 + 1)) m (by omega)
    rw [hg] at hv
    have hbyte := (l.getD m 0).toNat_lt
    have e0 : ((m + 1 : Nat) : Int) - 1 = (m : Int) := by omega
    rw [e0]
    rw [l1_round k (bs l) _ _ (m : Int) (by omega) (by simp; omega), bt_bs l m (by omega)]
    have e1 : wrap64 ((m : Int) - 1) = (m : Int) - 1 := by unfold wrap64; omega
    have e2 : IntKind.u64.wrap ((IntKind.u64.wrap (((m64 (val ((l.take (x5 + 1)).drop (m + 1))) : Nat) : Int) * 128)) + (Int.tmod (IntKind.u64.wrap ((l.getD m 0).toNat : Int)) 128)) = ((m64 (val ((l.take (x5 + 1)).drop m)) : Nat) : Int) := by
      rw [hv]
      simp only [u64w, m64]
      rw [Int.tmod_eq_emod_of_nonneg (by omega)]
      omega
    rw [e1, e2]
theorem take_l1' (l : List UInt8) (x5 : Nat) (hx : x5 < l.length) (h10 : x5 < 10) (k : Nat) (hk : 40 ≤ k) :
    ∃ k', 12 ≤ k' ∧ headgateref01_Take.l1 k (bs l) (x5 : Int) 0 (x5 : Int) = headgateref01_Take.l1 (k' + 1) (bs l) (x5 : Int) ((m64 (val (l.take (x5 + 1))) : Nat) : Int) (-1) := by
  obtain ⟨kk, hkk, h⟩ := take_l1 l x5 hx h10 (x5 + 1) k (by omega) (by omega)
  refine ⟨kk, hkk, ?_⟩
  have hz : val ((l.take (x5 + 1)).drop (x5 + 1)) = 0 := by
    rw [List.drop_of_length_le (by rw [List.length_take]; omega)]
    rfl
  have hm : ((m64 0 : Nat) : Int) = 0 := rfl
  have e0 : ((x5 + 1 : Nat) : Int) - 1 = (x5 : Int) := by omega
  rw [hz, hm, e0] at h
  exact h
theorem take_fin (l : List UInt8) (hl : l.length ≤ 9223372036854775800) (i : Nat) (hlt : i < l.length) (h10 : i < 10) (hall : ∀ j : Nat, j < i → 128 ≤ (l.getD j 0).toNat) (hlast : (l.getD i 0).toNat < 128) (kk : Nat) (hkk : 12 ≤ kk) (u : Nat) (hu : m64 (val (l.take (i + 1))) = u) :
    ((headgateref01_Put.f kk (uz u)).bind fun t107 => (if 0 ≤ (wrap64 ((i : Int) + 1)) then (if (wrap64 ((i : Int) + 1)) ≤ ((bs l).size : Int) then (if t107.toList = ((bs l).extract 0 ((wrap64 ((i : Int) + 1)) : Int).toNat).toList then (some (uz u, (bs l).extract ((wrap64 ((i : Int) + 1)) : Int).toNat (bs l).size, (0 : Int))) else (some (0, (⟨#[]⟩ : ByteArray), 2))) else (none)) else (none))) = some (takeR (dec l)) := by
  have hult : u < 18446744073709551616 := by rw [← hu]; exact m64_lt _
  have e1 : wrap64 ((i : Int) + 1) = ((i + 1 : Nat) : Int) := by unfold wrap64; omega
  have hn : I64 (uz u) := zz_lt.1 (by rw [zz_uz]; exact hult)
  have hb : (i : Int) + 1 ≤ ((bs l).size : Int) := by rw [size_bs]; omega
  rw [put_f _ hn kk hkk, Option.bind_some, e1, if_pos (by omega), if_pos (by omega), Int.toNat_natCast, extract_bs, extract_bs, toList_bs, toList_bs, size_bs, List.drop_zero, Nat.sub_zero]
  by_cases hc : enc (uz u) = l.take (i + 1)
  · rw [if_pos hc]
    have : dec l = some (uz u, l.drop (i + 1)) := (dec_iff _ _ _).2 ⟨by rw [hc, List.take_append_drop], hn⟩
    rw [this, List.take_of_length_le (by simp)]
    rfl
  · rw [if_neg hc]
    cases hd : dec l with
    | none => rfl
    | some p =>
      exfalso
      obtain ⟨m, r⟩ := p
      obtain ⟨rfl, hm⟩ := (dec_iff l m r).1 hd
      have htop := sev_tops 9 (zz m) (zz_lt.2 hm)
      have hlen := enc_len m
      have hget : ∀ j, j < (enc m).length → (enc m ++ r).getD j 0 = (enc m).getD j 0 := fun j hj => by
        simp only [List.getD_eq_getElem?_getD]
        rw [List.getElem?_append_left hj]
      have hi : i + 1 = (enc m).length := by
        rcases Nat.lt_trichotomy (i + 1) (enc m).length with h | h | h
        · have h1 := htop.1 i h
          rw [hget i (by omega)] at hlast
          unfold enc at hlast
          omega
        · exact h
        · have h1 := hall ((enc m).length - 1) (by omega)
          rw [hget _ (by omega)] at h1
          unfold enc at h1
          omega
      have htk : (enc m ++ r).take (i + 1) = enc m := by rw [hi, List.take_left]
      rw [htk] at hu hc
      have hv : val (enc m) = zz m := val_sev 9 _ (zz_lt.2 hm)
      have hzl := zz_lt.2 hm
      rw [hv, m64_of hzl] at hu
      apply hc
      rw [← hu, uz_zz]
theorem take_f (l : List UInt8) (hl : l.length ≤ 9223372036854775800) (k : Nat) (hk : 80 ≤ k) : headgateref01_Take.f k (bs l) = some (takeR (dec l)) := by
  unfold headgateref01_Take.f
  obtain ⟨i, k', hk1, hk2, he, hi1, hi2, hall, hend⟩ := take_l0 l hl k 10 0 (by omega) (by omega) rfl (fun j hj => by omega) (by omega)
  rw [show (0 : Int) = ((0 : Nat) : Int) from rfl, he]
  have bad : (i = l.length ∨ i = 10) → dec l = none := by
    intro hb
    cases hd : dec l with
    | none => rfl
    | some p =>
      exfalso
      obtain ⟨n, r⟩ := p
      obtain ⟨rfl, hn⟩ := (dec_iff l n r).1 hd
      have ht := (sev_tops 9 (zz n) (zz_lt.2 hn)).2
      have hlen := enc_len n
      have h1 : (enc n).length - 1 < i := by
        rcases hb with hb | hb
        · rw [List.length_append] at hb; omega
        · omega
      have h2 := hall _ h1
      have h3 : (enc n ++ r).getD ((enc n).length - 1) 0 = (enc n).getD ((enc n).length - 1) 0 := by
        simp only [List.getD_eq_getElem?_getD]
        rw [List.getElem?_append_left (by omega)]
      rw [h3] at h2
      unfold enc at h2
      omega
  obtain ⟨k', rfl⟩ : ∃ q, k' = q + 1 := ⟨k' - 1, by omega⟩
  rw [headgateref01_Take.j1]
  obtain ⟨k', rfl⟩ : ∃ q, k' = q + 1 := ⟨k' - 1, by omega⟩
  by_cases hA : i = l.length
  · rw [if_pos (by rw [size_bs]; omega), headgateref01_Take.j2, if_pos rfl, bad (.inl hA)]
    rfl
  · rw [if_neg (by rw [size_bs]; omega), headgateref01_Take.j2]
    by_cases hB : i = 10
    · rw [if_pos (beq_iff_eq.mpr (by omega)), bad (.inr hB)]
      rfl
    · rw [if_neg (by rw [beq_iff_eq]; omega)]
      obtain ⟨hlt, h10, hlast⟩ : i < l.length ∧ i < 10 ∧ (l.getD i 0).toNat < 128 := by
        rcases hend with h | h | h
        · exact absurd h hA
        · exact absurd h hB
        · exact h
      obtain ⟨kk, hkk, hl1⟩ := take_l1' l i hlt h10 k' (by omega)
      rw [hl1]
      have hult := m64_lt (val (l.take (i + 1)))
      generalize hu : m64 (val (l.take (i + 1))) = u at hult
      have hfin := take_fin l hl i hlt h10 hall hlast kk hkk u hu
      rw [headgateref01_Take.l1, if_neg (by omega)]
      have hq : Int.tdiv (u : Int) 2 = ((u / 2 : Nat) : Int) := by rw [Int.tdiv_eq_ediv_of_nonneg (by omega)]; omega
      have hr : Int.tmod (u : Int) 2 = ((u % 2 : Nat) : Int) := by rw [Int.tmod_eq_emod_of_nonneg (by omega)]; omega
      rw [hq, hr]
      by_cases hodd : u % 2 = 1
      · rw [if_pos (by omega)]
        have e : wrap64 (wrap64 (-(wrap64 (IntKind.u64.wrap ((u / 2 : Nat) : Int)))) - 1) = uz u := by
          have h1 : IntKind.u64.wrap ((u / 2 : Nat) : Int) = ((u / 2 : Nat) : Int) := by rw [u64w]; omega
          rw [h1, w64 (x := ((u / 2 : Nat) : Int)) (by omega) (by omega), w64 (x := -((u / 2 : Nat) : Int)) (by omega) (by omega), w64 (by omega) (by omega)]
          unfold uz
          rw [if_pos hodd]
        rw [e]
        exact hfin
      · rw [if_neg (by omega)]
        have e : wrap64 (IntKind.u64.wrap ((u / 2 : Nat) : Int)) = uz u := by
          have h1 : IntKind.u64.wrap ((u / 2 : Nat) : Int) = ((u / 2 : Nat) : Int) := by rw [u64w]; omega
          rw [h1, w64 (x := ((u / 2 : Nat) : Int)) (by omega) (by omega)]
          unfold uz
          rw [if_neg hodd]
        rw [e]
        exact hfin
end Go.Proofs.Ythmckblcckcaaaa.Vref
