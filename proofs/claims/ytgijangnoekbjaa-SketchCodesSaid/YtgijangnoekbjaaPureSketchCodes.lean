/- For any buckets and any bytes: sketch.Encode and sketch.Decode tell what the document's references tell, and each takes the other back. No condition. -/
import Derived.Test.YtgijangnoekbjaaPx2
import Derived.Test.YtgijangnoekbjaaPx3
import Derived.Test.YtgijangnoekbjaaPx5
import Derived.Test.YtgijangnoekbjaaPx6
import Derived.Test.YtgijangnoekbjaaPx9
import Derived.Test.YtgijangnoekbjaaPx11
import Derived.Test.YtgijangnoekbjaaPx12
import Derived.Test.YtgijangnoekbjaaPx13
import Derived.Test.YtgijangnoekbjaaPx14
import Derived.Test.YtgijangnoekbjaaPx15
import Derived.Test.YtgijangnoekbjaaPx16
import Derived.Test.YtgijangnoekbjaaPx17
import Derived.Test.YtgijangnoekbjaaPx18
import Derived.Test.YtgijangnoekbjaaPx19
import Derived.Test.YtgijangnoekbjaaPx21
import Derived.Test.YtgijangnoekbjaaVm
import Derived.Laws.Bits64
import Derived.Test.YtgijangnoekbjaaSm
set_option linter.unusedVariables false
set_option linter.unusedSimpArgs false
namespace Go.Proofs.Ytgijangnoekbjaa.Vref
open Go.RowKit Go.Proofs.Ytgijangnoekbjaa.Vm Go.Proofs.Ytgijangnoekbjaa.P Go.Proofs.YtgijangnoekbjaaW.PrintWords
theorem u64w (n : Int) : IntKind.u64.wrap n = n % 18446744073709551616 := IntKind.wrap_u64 n
theorem w64 {x : Int} (h0 : -9223372036854775808 ≤ x) (h1 : x ≤ 9223372036854775807) : wrap64 x = x := by unfold wrap64; omega
def toB (xs : List Int) : List UInt8 := xs.map fun n => UInt8.ofNat n.toNat
theorem toB_snoc (xs : List Int) (n : Int) : toB (xs ++ [n]) = toB xs ++ [UInt8.ofNat n.toNat] := by simp [toB]
theorem strOfNums_snoc (xs : List Int) (n : Int) : strOfNums (xs ++ [n]) = bs (toB xs ++ [UInt8.ofNat n.toNat]) := by rw [strOfNums_bs]; simp [toB]
theorem put_l0 (f : Nat) : ∀ (u k : Nat) (acc : List Int), u < 2 * 128 ^ f → f ≤ 9 → f < k → acc.length + f < 100 →
    headgateref01_Put.l0 k (u : Int) acc = some (bs (toB acc ++ sev f u)) := by
  induction f with
  | zero =>
    intro u k acc hu _ hk hl
    obtain ⟨k, rfl⟩ : ∃ m, k = m + 1 := ⟨k - 1, by omega⟩
    simp only [headgateref01_Put.l0]
    rw [if_neg (by omega), if_pos (by omega), strOfNums_snoc]
    have : ((u : Int) % 256).toNat = u := by omega
    rw [this]
    rfl
  | succ f ih =>
    intro u k acc hu hf hk hl
    have hs : 2 * 128 ^ (f + 1) = 128 * (2 * 128 ^ f) := by rw [Nat.pow_succ]; omega
    have hmax : 2 * 128 ^ (f + 1) ≤ 18446744073709551616 := by
      have : 128 ^ (f + 1) ≤ 128 ^ 9 := Nat.pow_le_pow_right (by decide) hf
      omega
    obtain ⟨k, rfl⟩ : ∃ m, k = m + 1 := ⟨k - 1, by omega⟩
    simp only [headgateref01_Put.l0]
    unfold sev
    by_cases h : u < 128
    · rw [if_neg (by omega), if_pos (by omega), strOfNums_snoc, if_pos h]
      have : ((u : Int) % 256).toNat = u := by omega
      rw [this]
    · rw [if_pos (by omega), if_pos (by omega), if_neg h]
      have e1 : IntKind.u64.wrap (Int.tdiv (u : Int) 128) = ((u / 128 : Nat) : Int) := by
        rw [Int.tdiv_eq_ediv_of_nonneg (by omega), u64w]; omega
      have e2 : ((IntKind.u64.wrap (Int.tmod (u : Int) 128 + 128)) % 256).toNat = u % 128 + 128 := by
        rw [Int.tmod_eq_emod_of_nonneg (by omega), u64w]; omega
      rw [e1, ih (u / 128) k _ (by omega) (by omega) (by omega) (by simp; omega), toB_snoc, e2]
      simp
theorem put_f (n : Int) (hn : I64 n) (k : Nat) (hk : 12 ≤ k) : headgateref01_Put.f k n = some (bs (enc n)) := by
  have hz := zz_lt.2 hn
  obtain ⟨k, rfl⟩ : ∃ m, k = m + 1 := ⟨k - 1, by omega⟩
  unfold I64 at hn
  unfold headgateref01_Put.f
  split
  · rename_i h
    have e : IntKind.u64.wrap (IntKind.u64.wrap (IntKind.u64.wrap (wrap64 (-(wrap64 (n + 1)))) * 2) + 1) = ((zz n : Nat) : Int) := by
      unfold wrap64 zz; rw [if_pos h]; simp only [u64w]; omega
    rw [e]
    simp only [headgateref01_Put.j0]
    exact put_l0 9 _ _ _ hz (by omega) (by omega) (by simp)
  · rename_i h
    have e : IntKind.u64.wrap (IntKind.u64.wrap n * 2) = ((zz n : Nat) : Int) := by
      unfold zz; rw [if_neg h]; simp only [u64w]; omega
    rw [e]
    simp only [headgateref01_Put.j0]
    exact put_l0 9 _ _ _ hz (by omega) (by omega) (by simp)
/-- What bytes' sevens come to, the first byte the lowest. -/
def m64 (n : Nat) : Nat := n % 18446744073709551616
theorem m64_lt (n : Nat) : m64 n < 18446744073709551616 := Nat.mod_lt _ (by decide)
theorem m64_of {n : Nat} (h : n < 18446744073709551616) : m64 n = n := Nat.mod_eq_of_lt h
def val : List UInt8 → Nat
  | [] => 0
  | c :: t => c.toNat % 128 + 128 * val t
theorem val_sev (f : Nat) : ∀ u, u < 2 * 128 ^ f → val (sev f u) = u := by
  induction f with
  | zero => intro u hu; simp [sev, val, toNat_ofNat_lt (show u < 256 by omega)]; omega
  | succ f ih =>
    intro u hu
    have hs : 2 * 128 ^ (f + 1) = 128 * (2 * 128 ^ f) := by rw [Nat.pow_succ]; omega
    unfold sev
    split
    · rename_i h; simp [val, toNat_ofNat_lt (show u < 256 by omega)]; omega
    · simp only [val]; rw [ih _ (by omega), toNat_ofNat_lt (by omega)]; omega
/-- All bytes of a number but its last one are 128 or more; its last one is less. -/
theorem sev_tops (f : Nat) : ∀ u, u < 2 * 128 ^ f → (∀ i, i + 1 < (sev f u).length → 128 ≤ ((sev f u).getD i 0).toNat) ∧ ((sev f u).getD ((sev f u).length - 1) 0).toNat < 128 := by
  induction f with
  | zero => intro u hu; simp [sev, toNat_ofNat_lt (show u < 256 by omega)]; omega
  | succ f ih =>
    intro u hu
    have hs : 2 * 128 ^ (f + 1) = 128 * (2 * 128 ^ f) := by rw [Nat.pow_succ]; omega
    unfold sev
    split
    · rename_i h; simp [toNat_ofNat_lt (show u < 256 by omega)]; omega
    · obtain ⟨h1, h2⟩ := ih (u / 128) (by omega)
      have hl := (sev_len f (u / 128)).1
      constructor
      · intro i hi
        cases i with
        | zero => simp only [List.getD_cons_zero]; rw [toNat_ofNat_lt (by omega)]; omega
        | succ i => simp only [List.getD_cons_succ]; exact h1 i (by simpa using hi)
      · obtain ⟨m, hm⟩ : ∃ m, (sev f (u / 128)).length = m + 1 := ⟨_, (Nat.sub_add_cancel hl).symm⟩
        simp only [List.length_cons, Nat.add_sub_cancel]
        rw [hm]
        simp only [List.getD_cons_succ]
        rw [hm] at h2
        exact h2
theorem bt_bs (l : List UInt8) (i : Nat) (h : i < l.length) : bt (bs l) (i : Int) = ((l.getD i 0).toNat : Int) := by
  unfold bt
  rw [dif_pos (by simpa using h)]
  simp only [Int.toNat_natCast]
  rw [List.getD_eq_getElem?_getD, List.getElem?_eq_getElem h]
  rfl
/-- Where the scan stops: at the first byte below 128, at the end, or behind ten. -/
theorem take_l0 (l : List UInt8) (hl : l.length ≤ 9223372036854775800) (k : Nat) : ∀ (d i : Nat), i ≤ l.length → i ≤ 10 → d = 10 - i → (∀ j : Nat, j < i → 128 ≤ (l.getD j 0).toNat) → d < k →
    ∃ i' k' : Nat, k' + d + 1 ≥ k ∧ k' < k ∧ headgateref01_Take.l0 k (bs l) (i : Int) = headgateref01_Take.j1 k' (bs l) (i' : Int) ∧ i' ≤ l.length ∧ i' ≤ 10 ∧ (∀ j : Nat, j < i' → 128 ≤ (l.getD j 0).toNat) ∧ (i' = l.length ∨ i' = 10 ∨ (i' < l.length ∧ i' < 10 ∧ (l.getD i' 0).toNat < 128)) := by
  induction k with
  | zero => intro d i _ _ _ _ hk; omega
  | succ k ih =>
    intro d i h1 h2 hd hall hk
    simp only [headgateref01_Take.l0]
    by_cases hlt : i < l.length
    · rw [if_pos (by simp; omega)]
      by_cases h10 : i < 10
      · rw [if_pos (by omega), if_pos (by omega), bt_bs l i hlt]
        by_cases hb : 128 ≤ (l.getD i 0).toNat
        · rw [if_pos (by omega)]
          have e : wrap64 ((i : Int) + 1) = ((i + 1 : Nat) : Int) := by unfold wrap64; omega
          rw [e]
          obtain ⟨i', k', ha, hb', hc, hr⟩ := ih (d - 1) (i + 1) (by omega) (by omega) (by omega) (fun j hj => by
            rcases Nat.lt_or_ge j i with h | h
            · exact hall j h
            · obtain rfl : j = i := by omega
              exact hb) (by omega)
          exact ⟨i', k', by omega, by omega, hc, hr⟩
        · rw [if_neg (by omega)]
          exact ⟨i, k, by omega, by omega, rfl, h1, h2, hall, .inr (.inr ⟨hlt, h10, by omega⟩)⟩
      · rw [if_neg (by omega)]
        exact ⟨i, k, by omega, by omega, rfl, h1, h2, hall, .inr (.inl (by omega))⟩
    · rw [if_neg (by simp; omega)]
      exact ⟨i, k, by omega, by omega, rfl, h1, h2, hall, .inl (by omega)⟩
theorem val_drop (t : List UInt8) (m : Nat) (h : m < t.length) : val (t.drop m) = (t.getD m 0).toNat % 128 + 128 * val (t.drop (m + 1)) := by
  rw [List.drop_eq_getElem_cons h, val, List.getD_eq_getElem?_getD, List.getElem?_eq_getElem h]
  rfl
theorem l1_round (k : Nat) (x0 : ByteArray) (x5 x6 x7 : Int) (h0 : 0 ≤ x7) (h1 : x7 < (x0.size : Int)) : headgateref01_Take.l1 (k + 1) x0 x5 x6 x7 = headgateref01_Take.l1 k x0 x5 (IntKind.u64.wrap ((IntKind.u64.wrap (x6 * 128)) + (Int.tmod (IntKind.u64.wrap (bt x0 x7)) 128))) (wrap64 (x7 - 1)) := by
  rw [headgateref01_Take.l1, if_pos h0, if_pos h0, if_pos h1]
theorem take_l1 (l : List UInt8) (x5 : Nat) (hx : x5 < l.length) (h10 : x5 < 10) : ∀ (m k : Nat), m ≤ x5 + 1 → m + 20 ≤ k →
    ∃ k', 12 ≤ k' ∧ headgateref01_Take.l1 k (bs l) (x5 : Int) ((m64 (val ((l.take (x5 + 1)).drop m)) : Nat) : Int) ((m : Int) - 1) = headgateref01_Take.l1 (k' + 1) (bs l) (x5 : Int) ((m64 (val (l.take (x5 + 1))) : Nat) : Int) (-1) := by
  intro m
  induction m with
  | zero =>
    intro k _ hk
    obtain ⟨k, rfl⟩ : ∃ q, k = q + 1 := ⟨k - 1, by omega⟩
    refine ⟨k, by omega, ?_⟩
    rw [List.drop_zero, show ((0 : Nat) : Int) - 1 = -1 by omega]
  | succ m ih =>
    intro k hm hk
    obtain ⟨k, rfl⟩ : ∃ q, k = q + 1 := ⟨k - 1, by omega⟩
    obtain ⟨k', h1, h2⟩ := ih k (by omega) (by omega)
    refine ⟨k', h1, ?_⟩
    rw [← h2]
    have hlen : (l.take (x5 + 1)).length = x5 + 1 := by simp; omega
    have hg : (l.take (x5 + 1)).getD m 0 = l.getD m 0 := by
      simp only [List.getD_eq_getElem?_getD]
      rw [List.getElem?_take_of_lt (by omega)]
    have hv := val_drop (l.take (x5 + 1)) m (by omega)
    rw [hg] at hv
    have hbyte := (l.getD m 0).toNat_lt
    have e0 : ((m + 1 : Nat) : Int) - 1 = (m : Int) := by omega
    rw [e0]
    rw [l1_round k (bs l) _ _ (m : Int) (by omega) (by simp; omega), bt_bs l m (by omega)]
    have e1 : wrap64 ((m : Int) - 1) = (m : Int) - 1 := by unfold wrap64; omega
    have e2 : IntKind.u64.wrap ((IntKind.u64.wrap (((m64 (val ((l.take (x5 + 1)).drop (m + 1))) : Nat) : Int) * 128)) + (Int.tmod (IntKind.u64.wrap ((l.getD m 0).toNat : Int)) 128)) = ((m64 (val ((l.take (x5 + 1)).drop m)) : Nat) : Int) := by
      rw [hv]
      simp only [u64w, m64]
      rw [Int.tmod_eq_emod_of_nonneg (by omega)]
      omega
    rw [e1, e2]
theorem take_l1' (l : List UInt8) (x5 : Nat) (hx : x5 < l.length) (h10 : x5 < 10) (k : Nat) (hk : 40 ≤ k) :
    ∃ k', 12 ≤ k' ∧ headgateref01_Take.l1 k (bs l) (x5 : Int) 0 (x5 : Int) = headgateref01_Take.l1 (k' + 1) (bs l) (x5 : Int) ((m64 (val (l.take (x5 + 1))) : Nat) : Int) (-1) := by
  obtain ⟨kk, hkk, h⟩ := take_l1 l x5 hx h10 (x5 + 1) k (by omega) (by omega)
  refine ⟨kk, hkk, ?_⟩
  have hz : val ((l.take (x5 + 1)).drop (x5 + 1)) = 0 := by
    rw [List.drop_of_length_le (by rw [List.length_take]; omega)]
    rfl
  have hm : ((m64 0 : Nat) : Int) = 0 := rfl
  have e0 : ((x5 + 1 : Nat) : Int) - 1 = (x5 : Int) := by omega
  rw [hz, hm, e0] at h
  exact h
theorem take_fin (l : List UInt8) (hl : l.length ≤ 9223372036854775800) (i : Nat) (hlt : i < l.length) (h10 : i < 10) (hall : ∀ j : Nat, j < i → 128 ≤ (l.getD j 0).toNat) (hlast : (l.getD i 0).toNat < 128) (kk : Nat) (hkk : 12 ≤ kk) (u : Nat) (hu : m64 (val (l.take (i + 1))) = u) :
    ((headgateref01_Put.f kk (uz u)).bind fun t107 => (if 0 ≤ (wrap64 ((i : Int) + 1)) then (if (wrap64 ((i : Int) + 1)) ≤ ((bs l).size : Int) then (if t107.toList = ((bs l).extract 0 ((wrap64 ((i : Int) + 1)) : Int).toNat).toList then (some (uz u, (bs l).extract ((wrap64 ((i : Int) + 1)) : Int).toNat (bs l).size, (0 : Int))) else (some (0, (⟨#[]⟩ : ByteArray), 2))) else (none)) else (none))) = some (takeR (dec l)) := by
  have hult : u < 18446744073709551616 := by rw [← hu]; exact m64_lt _
  have e1 : wrap64 ((i : Int) + 1) = ((i + 1 : Nat) : Int) := by unfold wrap64; omega
  have hn : I64 (uz u) := zz_lt.1 (by rw [zz_uz]; exact hult)
  have hb : (i : Int) + 1 ≤ ((bs l).size : Int) := by rw [size_bs]; omega
  rw [put_f _ hn kk hkk, Option.bind_some, e1, if_pos (by omega), if_pos (by omega), Int.toNat_natCast, extract_bs, extract_bs, toList_bs, toList_bs, size_bs, List.drop_zero, Nat.sub_zero]
  by_cases hc : enc (uz u) = l.take (i + 1)
  · rw [if_pos hc]
    have : dec l = some (uz u, l.drop (i + 1)) := (dec_iff _ _ _).2 ⟨by rw [hc, List.take_append_drop], hn⟩
    rw [this, List.take_of_length_le (by simp)]
    rfl
  · rw [if_neg hc]
    cases hd : dec l with
    | none => rfl
    | some p =>
      exfalso
      obtain ⟨m, r⟩ := p
      obtain ⟨rfl, hm⟩ := (dec_iff l m r).1 hd
      have htop := sev_tops 9 (zz m) (zz_lt.2 hm)
      have hlen := enc_len m
      have hget : ∀ j, j < (enc m).length → (enc m ++ r).getD j 0 = (enc m).getD j 0 := fun j hj => by
        simp only [List.getD_eq_getElem?_getD]
        rw [List.getElem?_append_left hj]
      have hi : i + 1 = (enc m).length := by
        rcases Nat.lt_trichotomy (i + 1) (enc m).length with h | h | h
        · have h1 := htop.1 i h
          rw [hget i (by omega)] at hlast
          unfold enc at hlast
          omega
        · exact h
        · have h1 := hall ((enc m).length - 1) (by omega)
          rw [hget _ (by omega)] at h1
          unfold enc at h1
          omega
      have htk : (enc m ++ r).take (i + 1) = enc m := by rw [hi, List.take_left]
      rw [htk] at hu hc
      have hv : val (enc m) = zz m := val_sev 9 _ (zz_lt.2 hm)
      have hzl := zz_lt.2 hm
      rw [hv, m64_of hzl] at hu
      apply hc
      rw [← hu, uz_zz]
theorem take_f (l : List UInt8) (hl : l.length ≤ 9223372036854775800) (k : Nat) (hk : 80 ≤ k) : headgateref01_Take.f k (bs l) = some (takeR (dec l)) := by
  unfold headgateref01_Take.f
  obtain ⟨i, k', hk1, hk2, he, hi1, hi2, hall, hend⟩ := take_l0 l hl k 10 0 (by omega) (by omega) rfl (fun j hj => by omega) (by omega)
  rw [show (0 : Int) = ((0 : Nat) : Int) from rfl, he]
  have bad : (i = l.length ∨ i = 10) → dec l = none := by
    intro hb
    cases hd : dec l with
    | none => rfl
    | some p =>
      exfalso
      obtain ⟨n, r⟩ := p
      obtain ⟨rfl, hn⟩ := (dec_iff l n r).1 hd
      have ht := (sev_tops 9 (zz n) (zz_lt.2 hn)).2
      have hlen := enc_len n
      have h1 : (enc n).length - 1 < i := by
        rcases hb with hb | hb
        · rw [List.length_append] at hb; omega
        · omega
      have h2 := hall _ h1
      have h3 : (enc n ++ r).getD ((enc n).length - 1) 0 = (enc n).getD ((enc n).length - 1) 0 := by
        simp only [List.getD_eq_getElem?_getD]
        rw [List.getElem?_append_left (by omega)]
      rw [h3] at h2
      unfold enc at h2
      omega
  obtain ⟨k', rfl⟩ : ∃ q, k' = q + 1 := ⟨k' - 1, by omega⟩
  rw [headgateref01_Take.j1]
  obtain ⟨k', rfl⟩ : ∃ q, k' = q + 1 := ⟨k' - 1, by omega⟩
  by_cases hA : i = l.length
  · rw [if_pos (by rw [size_bs]; omega), headgateref01_Take.j2, if_pos rfl, bad (.inl hA)]
    rfl
  · rw [if_neg (by rw [size_bs]; omega), headgateref01_Take.j2]
    by_cases hB : i = 10
    · rw [if_pos (beq_iff_eq.mpr (by omega)), bad (.inr hB)]
      rfl
    · rw [if_neg (by rw [beq_iff_eq]; omega)]
      obtain ⟨hlt, h10, hlast⟩ : i < l.length ∧ i < 10 ∧ (l.getD i 0).toNat < 128 := by
        rcases hend with h | h | h
        · exact absurd h hA
        · exact absurd h hB
        · exact h
      obtain ⟨kk, hkk, hl1⟩ := take_l1' l i hlt h10 k' (by omega)
      rw [hl1]
      have hult := m64_lt (val (l.take (i + 1)))
      generalize hu : m64 (val (l.take (i + 1))) = u at hult
      have hfin := take_fin l hl i hlt h10 hall hlast kk hkk u hu
      rw [headgateref01_Take.l1, if_neg (by omega)]
      have hq : Int.tdiv (u : Int) 2 = ((u / 2 : Nat) : Int) := by rw [Int.tdiv_eq_ediv_of_nonneg (by omega)]; omega
      have hr : Int.tmod (u : Int) 2 = ((u % 2 : Nat) : Int) := by rw [Int.tmod_eq_emod_of_nonneg (by omega)]; omega
      rw [hq, hr]
      by_cases hodd : u % 2 = 1
      · rw [if_pos (by omega)]
        have e : wrap64 (wrap64 (-(wrap64 (IntKind.u64.wrap ((u / 2 : Nat) : Int)))) - 1) = uz u := by
          have h1 : IntKind.u64.wrap ((u / 2 : Nat) : Int) = ((u / 2 : Nat) : Int) := by rw [u64w]; omega
          rw [h1, w64 (x := ((u / 2 : Nat) : Int)) (by omega) (by omega), w64 (x := -((u / 2 : Nat) : Int)) (by omega) (by omega), w64 (by omega) (by omega)]
          unfold uz
          rw [if_pos hodd]
        rw [e]
        exact hfin
      · rw [if_neg (by omega)]
        have e : wrap64 (IntKind.u64.wrap ((u / 2 : Nat) : Int)) = uz u := by
          have h1 : IntKind.u64.wrap ((u / 2 : Nat) : Int) = ((u / 2 : Nat) : Int) := by rw [u64w]; omega
          rw [h1, w64 (x := ((u / 2 : Nat) : Int)) (by omega) (by omega)]
          unfold uz
          rw [if_neg hodd]
        rw [e]
        exact hfin
end Go.Proofs.Ytgijangnoekbjaa.Vref
set_option linter.unusedVariables false
set_option linter.unusedSimpArgs false
namespace Go.Proofs.Ytgijangnoekbjaa.Vp
open Go.RowKit Go.Proofs.Ytgijangnoekbjaa.Vm Go.Proofs.Ytgijangnoekbjaa.Vref Go.Proofs.Ytgijangnoekbjaa.P Go.Proofs.YtgijangnoekbjaaW.PrintWords
theorem i64_of {n : Int} (h : (Lit.int .i64 n).wf = true) : I64 n := by
  simp only [Lit.wf, IntKind.min, IntKind.max, IntKind.signed, IntKind.bits, Bool.and_eq_true, decide_eq_true_eq, if_true] at h
  unfold I64
  omega
theorem put_eq {n : Int} (h : I64 n) : varint_Put.f n = some (bs (enc n)) := if_pos h
theorem take_eq (l : List UInt8) (h : l.length ≤ 9223372036854775807) : varint_Take.f (bs l) = some (takeR (dec l)) := by
  unfold varint_Take.f
  rw [size_bs, if_pos h, data_bs]
theorem takeR_1 (n : Int) (r : List UInt8) : (takeR (some (n, r))).1 = n := rfl
theorem takeR_2 (n : Int) (r : List UInt8) : (takeR (some (n, r))).2.1 = bs r := rfl
theorem takeR_3 (n : Int) (r : List UInt8) : (takeR (some (n, r))).2.2 = 0 := rfl
theorem takeR_n3 : (takeR none).2.2 = 2 := rfl
theorem takeR_n2 : (takeR none).2.1 = bs [] := rfl
/-- So many numbers, with which bytes begin. -/
def decN : Nat → List UInt8 → Option (List Int × List UInt8)
  | 0, l => some ([], l)
  | n + 1, l => (dec l).bind fun p => (decN n p.2).map fun q => (p.1 :: q.1, q.2)
def allR : Option (List Int × List UInt8) → List Int × ByteArray × Int
  | some (a, b) => (a, bs b, 0)
  | none => ([], bs [], 2)
/-- What TakeAll tells. -/
def takeAllR (l : List UInt8) (n : Int) : List Int × ByteArray × Int := if n < 0 ∨ n > 64 then ([], bs [], 1) else allR (decN n.toNat l)
theorem takeAll_l0 (d : Nat) : ∀ (l : List UInt8) (acc : List Int) (n i : Int) (k : Nat), l.length ≤ 9223372036854775800 → 0 ≤ i → i ≤ n → n ≤ 64 → n - i = d → d < k → acc.length ≤ 64 - d →
    varint_TakeAll.l0 k (bs l) acc n i = some (allR ((decN d l).map fun q => (acc ++ q.1, q.2))) := by
  induction d with
  | zero =>
    intro l acc n i k hl h0 h1 h64 hd hk ha
    obtain ⟨k, rfl⟩ : ∃ m, k = m + 1 := ⟨k - 1, by omega⟩
    rw [varint_TakeAll.l0, if_neg (by omega)]
    simp [decN, allR]
  | succ d ih =>
    intro l acc n i k hl h0 h1 h64 hd hk ha
    obtain ⟨k, rfl⟩ : ∃ m, k = m + 1 := ⟨k - 1, by omega⟩
    rw [varint_TakeAll.l0, if_pos (by omega), take_eq l (by omega), Option.bind_some]
    cases hdc : dec l with
    | none =>
      rw [takeR_n3, if_neg (by decide)]
      simp only [decN, hdc]
      rfl
    | some p =>
      obtain ⟨x, r⟩ := p
      have hr := (dec_iff _ _ _).1 hdc
      have hrl : r.length ≤ l.length := by rw [hr.1, List.length_append]; omega
      rw [takeR_1, takeR_2, takeR_3, if_pos rfl, if_pos (by omega), w64 (by omega) (by omega), ih r (acc ++ [x]) n (i + 1) k (by omega) (by omega) (by omega) h64 (by omega) (by omega) (by rw [List.length_append, List.length_singleton]; omega)]
      simp only [decN, hdc, Option.bind_some, Option.map_map]
      congr 2
      cases decN d r <;> simp
theorem takeAll_eq (l : List UInt8) (hl : l.length ≤ 9223372036854775800) (n : Int) (k : Nat) (hk : 200 ≤ k) : varint_TakeAll.f k (bs l) n = some (takeAllR l n) := by
  obtain ⟨k, rfl⟩ : ∃ m, k = m + 1 := ⟨k - 1, by omega⟩
  unfold varint_TakeAll.f takeAllR
  rw [varint_TakeAll.j0, if_pos rfl, varint_TakeAll.j0]
  by_cases h0 : n < 0
  · rw [if_pos h0, if_pos (.inl h0)]; rfl
  · rw [if_neg h0]
    by_cases h1 : n > 64
    · rw [if_pos (decide_eq_true h1), if_pos (.inr h1)]; rfl
    · rw [if_neg (by rw [decide_eq_true_eq]; exact h1), if_neg (by omega), takeAll_l0 n.toNat l [] n 0 k hl (by omega) (by omega) (by omega) (by omega) (by omega) (by simp)]
      congr 2
      cases decN n.toNat l <;> simp
theorem putAll_eq (l : List Int) (hl : l.length ≤ 1099511627776) (h : ∀ x ∈ l, I64 x) : varint_PutAll.f l = some (bs (l.flatMap enc)) := if_pos ⟨hl, h⟩
end Go.Proofs.Ytgijangnoekbjaa.Vp
set_option linter.unusedVariables false
set_option linter.unusedSimpArgs false
namespace Go.Proofs.Ytgijangnoekbjaa.Sp
open Go.RowKit Go.Proofs.Ytgijangnoekbjaa.Vm Go.Proofs.Ytgijangnoekbjaa.Sm Go.Proofs.Ytgijangnoekbjaa.P Go.Proofs.YtgijangnoekbjaaW.PrintWords
theorem w64 {x : Int} (h0 : -9223372036854775808 ≤ x) (h1 : x ≤ 9223372036854775807) : wrap64 x = x := by unfold wrap64; omega
theorem i64_of {n : Int} (h : (Lit.int .i64 n).wf = true) : I64 n := by
  simp only [Lit.wf, IntKind.min, IntKind.max, IntKind.signed, IntKind.bits, Bool.and_eq_true, decide_eq_true_eq, if_true] at h
  unfold I64
  omega
def endsR (b : Int) : Int × Int × Int := if -960 ≤ b ∧ b < 960 then (lo b, lo (b + 1) - 1, 0) else (0, 0, 1)
theorem of_eq {v : Int} (h : I64 v) : sketch_Of.f v = some (bk v) := if_pos h
theorem lo_neg (a : Nat) : lo (-1 - (a : Int)) = -(lst (a + 1) : Int) ∧ lo (-1 - (a : Int) + 1) = -(lst a : Int) := by
  constructor
  · unfold lo; rw [if_pos (by omega), show (-(-1 - (a : Int))).toNat = a + 1 by omega]
  · unfold lo
    by_cases h1 : -1 - (a : Int) + 1 < 0
    · rw [if_pos h1, show (-(-1 - (a : Int) + 1)).toNat = a by omega]
    · obtain rfl : a = 0 := by omega
      rw [if_neg h1, show (-1 - ((0 : Nat) : Int) + 1).toNat = 0 by omega]
      decide
theorem lo_pos (a : Nat) : lo (a : Int) = (lst a : Int) ∧ lo ((a : Int) + 1) = (lst (a + 1) : Int) := by
  constructor
  · unfold lo; rw [if_neg (by omega), Int.toNat_natCast]
  · unfold lo; rw [if_neg (by omega), show ((a : Int) + 1).toNat = a + 1 by omega]
theorem lst_959 (a : Nat) (h : a + 1 < 960) : lst (a + 1) < 9223372036854775808 := by
  have h1 := lst_lt (a + 1)
  have h2 : lst (a + 1 + 1) ≤ lst 960 := lst_mono (by omega)
  rw [lst_960] at h2
  omega
theorem ends_eq {b : Int} (h : I64 b) : sketch_Ends.f b = some (endsR b) := by
  have his : sketch_is.f b = some (decide (-960 ≤ b ∧ b < 960)) := if_pos h
  have hx := Len.notx b h
  unfold sketch_Ends.f endsR
  rw [his, Option.bind_some]
  by_cases hr : -960 ≤ b ∧ b < 960
  · rw [if_pos (decide_eq_true hr), if_pos hr]
    by_cases h0 : b < 0
    · obtain ⟨a, rfl⟩ : ∃ a : Nat, b = -1 - (a : Int) := ⟨(-1 - b).toNat, by omega⟩
      have hm : mx (-1 - (a : Int)) (Go.bits .xor .i64 (-1) (-1 - (a : Int))) = (a : Int) := by rw [hx]; unfold mx; split <;> omega
      have hl : sketch_least.f (a : Int) = some (lst a : Int) := if_pos (by omega)
      obtain ⟨e1, e2⟩ := lo_neg a
      have hb := lst_lt a
      rw [hm, hl, Option.bind_some, w64 (by omega) (by omega), e1, e2]
      by_cases h9 : a + 1 < 960
      · have hl2 : sketch_least.f ((a : Int) + 1) = some (lst (a + 1) : Int) := if_pos (by omega)
        have hb9 := lst_959 a h9
        rw [if_pos (by omega), hl2, Option.bind_some, if_pos h0, w64 (by omega) (by omega), Len.notx _ (by unfold I64; omega), Len.notx _ (by unfold I64; omega)]
        simp only [Option.some.injEq, Prod.mk.injEq]
        exact ⟨by omega, by omega, trivial⟩
      · obtain rfl : a = 959 := by omega
        have e9 : lst (959 + 1) = 9223372036854775808 := lst_960
        rw [e9] at hb ⊢
        rw [if_neg (by omega), if_pos h0, Len.notx _ (by unfold I64; omega), Len.notx _ (by unfold I64; omega)]
        simp only [Option.some.injEq, Prod.mk.injEq]
        exact ⟨by omega, by omega, trivial⟩
    · obtain ⟨a, rfl⟩ : ∃ a : Nat, b = (a : Int) := ⟨b.toNat, by omega⟩
      have hm : mx (a : Int) (Go.bits .xor .i64 (-1) (a : Int)) = (a : Int) := by rw [hx]; unfold mx; split <;> omega
      have hl : sketch_least.f (a : Int) = some (lst a : Int) := if_pos (by omega)
      obtain ⟨e1, e2⟩ := lo_pos a
      have hb := lst_lt a
      rw [hm, hl, Option.bind_some, w64 (by omega) (by omega), e1, e2]
      by_cases h9 : a + 1 < 960
      · have hl2 : sketch_least.f ((a : Int) + 1) = some (lst (a + 1) : Int) := if_pos (by omega)
        have hb9 := lst_959 a h9
        rw [if_pos (by omega), hl2, Option.bind_some, if_neg h0, w64 (by omega) (by omega)]
      · obtain rfl : a = 959 := by omega
        have e9 : lst (959 + 1) = 9223372036854775808 := lst_960
        rw [e9] at hb ⊢
        rw [if_neg (by omega), if_neg h0]
        rfl
  · rw [if_neg (by rw [decide_eq_true_eq]; exact hr), if_neg hr]
theorem awake_eq : headgatelaw29_awake.f = some true := by
  have o1 : bk 31 = 31 := by decide
  have o2 : bk 32 = 32 := by decide
  have o3 : bk 33 = 32 := by decide
  have o4 : bk 1000 = 111 := by decide
  have o5 : bk (-1) = -1 := by decide
  have e1 : endsR 111 = (992, 1023, 0) := by decide
  unfold headgatelaw29_awake.f
  rw [ends_eq (by decide), e1, Option.bind_some, of_eq (by decide), o1, Option.bind_some, if_pos rfl, of_eq (by decide), o2, Option.bind_some, if_pos rfl, of_eq (by decide), o3, Option.bind_some, if_pos rfl, of_eq (by decide), o4, Option.bind_some, if_pos rfl, of_eq (by decide), o5, Option.bind_some, if_pos rfl, if_pos rfl, if_pos rfl]
  rfl
end Go.Proofs.Ytgijangnoekbjaa.Sp
set_option linter.unusedVariables false
set_option linter.unusedSimpArgs false
namespace Go.Proofs.Ytgijangnoekbjaa.Sc
open Go.RowKit Go.Proofs.Ytgijangnoekbjaa.Vm Go.Proofs.Ytgijangnoekbjaa.Sm Go.Proofs.Ytgijangnoekbjaa.Sp Go.Proofs.Ytgijangnoekbjaa.P Go.Proofs.YtgijangnoekbjaaW.PrintWords Go.Proofs.YtgijangnoekbjaaW.PrintLast
def Wf (s : List S61) : Prop := ∀ y ∈ s, wf61 y
def good (sum prev : Int) (x : S61) : Bool := decide (-960 ≤ x.f0 ∧ x.f0 < 960 ∧ 1 ≤ x.f1 ∧ x.f1 ≤ 1099511627776 - sum ∧ prev < x.f0)
def okS : Int → Int → List S61 → Bool
  | _, _, [] => true
  | sum, prev, x :: r => good sum prev x && okS (sum + x.f1) x.f0 r
def tot : List S61 → Int
  | [] => 0
  | x :: r => x.f1 + tot r
theorem good_iff {sum prev : Int} {x : S61} : good sum prev x = true ↔ (-960 ≤ x.f0 ∧ x.f0 < 960 ∧ 1 ≤ x.f1 ∧ x.f1 ≤ 1099511627776 - sum ∧ prev < x.f0) := by unfold good; exact decide_eq_true_iff
theorem tot_le {sum prev : Int} {l : List S61} (h : okS sum prev l = true) (h0 : sum ≤ 1099511627776) : sum + tot l ≤ 1099511627776 ∧ (l.length : Int) ≤ tot l ∧ (∀ y ∈ l, -960 ≤ y.f0 ∧ y.f0 < 960 ∧ 1 ≤ y.f1 ∧ y.f1 ≤ tot l) := by
  induction l generalizing sum prev with
  | nil => exact ⟨by show sum + 0 ≤ _; omega, by show ((0 : Nat) : Int) ≤ 0; omega, fun y hy => by cases hy⟩
  | cons x r ih =>
    unfold okS at h
    rw [Bool.and_eq_true, good_iff] at h
    obtain ⟨⟨a1, a2, a3, a4, a5⟩, h2⟩ := h
    obtain ⟨b1, b2, b3⟩ := ih h2 (by omega)
    have ht : tot (x :: r) = x.f1 + tot r := rfl
    refine ⟨by omega, by rw [List.length_cons]; omega, fun y hy => ?_⟩
    rcases List.mem_cons.1 hy with rfl | hy
    · omega
    · have := b3 y hy; omega
theorem wf_i64 {x : S61} (h : wf61 x) : I64 x.f0 ∧ I64 x.f1 := ⟨i64_of h.1, i64_of h.2⟩
theorem rd_at (s : List S61) (j : Nat) (h : j < s.length) : rd_T61 s (j : Int) = s[j] := by
  unfold rd_T61
  rw [Int.toNat_natCast, List.getD_eq_getElem?_getD, List.getElem?_eq_getElem h]
  rfl
def prevAt (s : List S61) (j : Nat) : Int := if j = 0 then -961 else (rd_T61 s ((j : Int) - 1)).f0
theorem prev_succ (s : List S61) (j : Nat) (h : j < s.length) : prevAt s (j + 1) = s[j].f0 := by
  unfold prevAt
  rw [if_neg (by omega), show ((j + 1 : Nat) : Int) - 1 = (j : Int) by omega, rd_at s j h]
theorem check_l0 (s : List S61) (hw : Wf s) (hl : s.length ≤ 9223372036854775807) (d : Nat) : ∀ (j k : Nat) (sum : Int), s.length - j = d → j ≤ s.length → d < k → 0 ≤ sum → sum ≤ 1099511627776 →
    sketch_Check.l0 k s sum s (s.length : Int) (j : Int) = some (if okS sum (prevAt s j) (s.drop j) = true then 0 else 1) := by
  induction d with
  | zero =>
    intro j k sum hd hj hk h0 h1
    obtain ⟨k, rfl⟩ : ∃ m, k = m + 1 := ⟨k - 1, by omega⟩
    rw [sketch_Check.l0, if_neg (by omega), List.drop_of_length_le (by omega)]
    rfl
  | succ d ih =>
    intro j k sum hd hj hk h0 h1
    obtain ⟨k, rfl⟩ : ∃ m, k = m + 1 := ⟨k - 1, by omega⟩
    have hjl : j < s.length := by omega
    obtain ⟨x0, x1⟩ := wf_i64 (hw s[j] (List.getElem_mem hjl))
    have his : sketch_is.f s[j].f0 = some (decide (-960 ≤ s[j].f0 ∧ s[j].f0 < 960)) := if_pos x0
    unfold I64 at x0 x1
    rw [sketch_Check.l0, if_pos (by omega), if_pos (by omega), if_pos (by omega), rd_at s j hjl, his, Option.bind_some, List.drop_eq_getElem_cons hjl]
    show _ = some (if (good sum (prevAt s j) s[j] && okS (sum + s[j].f1) s[j].f0 (s.drop (j + 1))) = true then 0 else 1)
    have hg := @good_iff sum (prevAt s j) s[j]
    have hb : ∀ b : Bool, good sum (prevAt s j) s[j] = false → (1 : Int) = if (good sum (prevAt s j) s[j] && b) = true then 0 else 1 := fun b h => by rw [h]; rfl
    have hf : ¬ (-960 ≤ s[j].f0 ∧ s[j].f0 < 960 ∧ 1 ≤ s[j].f1 ∧ s[j].f1 ≤ 1099511627776 - sum ∧ prevAt s j < s[j].f0) → good sum (prevAt s j) s[j] = false := fun h => by
      rw [← hg] at h; exact Bool.eq_false_iff.2 h
    by_cases c1 : -960 ≤ s[j].f0 ∧ s[j].f0 < 960
    · rw [if_pos (decide_eq_true c1)]
      by_cases c2 : s[j].f1 < 1
      · rw [if_pos c2]; exact congrArg some (hb _ (hf (by omega)))
      · rw [if_neg c2, w64 (x := 1099511627776 - sum) (by omega) (by omega)]
        by_cases c3 : s[j].f1 > 1099511627776 - sum
        · rw [if_pos c3]; exact congrArg some (hb _ (hf (by omega)))
        · rw [if_neg c3, w64 (x := sum + s[j].f1) (by omega) (by omega), w64 (x := (j : Int) + 1) (by omega) (by omega)]
          have hrec : prevAt s j < s[j].f0 → sketch_Check.l0 k s (sum + s[j].f1) s (s.length : Int) ((j : Int) + 1) = some (if (good sum (prevAt s j) s[j] && okS (sum + s[j].f1) s[j].f0 (s.drop (j + 1))) = true then 0 else 1) := fun hp => by
            have := ih (j + 1) k (sum + s[j].f1) (by omega) (by omega) (by omega) (by omega) (by omega)
            rw [prev_succ s j hjl] at this
            rw [show ((j : Int) + 1) = ((j + 1 : Nat) : Int) by omega, this, good_iff.2 ⟨c1.1, c1.2, by omega, by omega, hp⟩, Bool.true_and]
          by_cases c4 : (j : Int) > 0
          · have hpe : prevAt s j = (rd_T61 s ((j : Int) - 1)).f0 := if_neg (by omega)
            rw [if_pos c4, w64 (x := (j : Int) - 1) (by omega) (by omega), if_pos (by omega), if_pos (by omega), ← hpe]
            by_cases c5 : prevAt s j ≥ s[j].f0
            · rw [if_pos c5]; exact congrArg some (hb _ (hf (by omega)))
            · rw [if_neg c5]; exact hrec (by omega)
          · rw [if_neg c4]
            have hpe : prevAt s j = -961 := if_pos (by omega)
            exact hrec (by omega)
    · rw [if_neg (by rw [decide_eq_true_eq]; exact c1)]; exact congrArg some (hb _ (hf (by omega)))
theorem may_l0 (s : List S61) (hw : Wf s) (hl : s.length ≤ 9223372036854775807) (d : Nat) : ∀ (j k : Nat) (sum : Int), s.length - j = d → j ≤ s.length → d < k → 0 ≤ sum → sum ≤ 1099511627776 →
    headgateref29_May.l0 k s sum (j : Int) = some (okS sum (prevAt s j) (s.drop j)) := by
  induction d with
  | zero =>
    intro j k sum hd hj hk h0 h1
    obtain ⟨k, rfl⟩ : ∃ m, k = m + 1 := ⟨k - 1, by omega⟩
    rw [headgateref29_May.l0, if_neg (by omega), List.drop_of_length_le (by omega)]
    rfl
  | succ d ih =>
    intro j k sum hd hj hk h0 h1
    obtain ⟨k, rfl⟩ : ∃ m, k = m + 1 := ⟨k - 1, by omega⟩
    have hjl : j < s.length := by omega
    obtain ⟨x0, x1⟩ := wf_i64 (hw s[j] (List.getElem_mem hjl))
    unfold I64 at x0 x1
    rw [headgateref29_May.l0, if_pos (by omega), if_pos (by omega), rd_at s j hjl, List.drop_eq_getElem_cons hjl]
    show _ = some (good sum (prevAt s j) s[j] && okS (sum + s[j].f1) s[j].f0 (s.drop (j + 1)))
    have hg := @good_iff sum (prevAt s j) s[j]
    have hb : ∀ b : Bool, good sum (prevAt s j) s[j] = false → false = (good sum (prevAt s j) s[j] && b) := fun b h => by rw [h]; rfl
    have hf : ¬ (-960 ≤ s[j].f0 ∧ s[j].f0 < 960 ∧ 1 ≤ s[j].f1 ∧ s[j].f1 ≤ 1099511627776 - sum ∧ prevAt s j < s[j].f0) → good sum (prevAt s j) s[j] = false := fun h => by
      rw [← hg] at h; exact Bool.eq_false_iff.2 h
    by_cases c1 : s[j].f0 < -960
    · rw [if_pos c1]; exact congrArg some (hb _ (hf (by omega)))
    · rw [if_neg c1]
      by_cases c1' : s[j].f0 ≥ 960
      · rw [if_pos c1']; exact congrArg some (hb _ (hf (by omega)))
      · rw [if_neg c1']
        by_cases c2 : s[j].f1 < 1
        · rw [if_pos c2]; exact congrArg some (hb _ (hf (by omega)))
        · rw [if_neg c2, w64 (x := 1099511627776 - sum) (by omega) (by omega)]
          by_cases c3 : s[j].f1 > 1099511627776 - sum
          · rw [if_pos c3]; exact congrArg some (hb _ (hf (by omega)))
          · rw [if_neg c3, w64 (x := sum + s[j].f1) (by omega) (by omega), w64 (x := (j : Int) + 1) (by omega) (by omega)]
            have hrec : prevAt s j < s[j].f0 → headgateref29_May.l0 k s (sum + s[j].f1) ((j : Int) + 1) = some (good sum (prevAt s j) s[j] && okS (sum + s[j].f1) s[j].f0 (s.drop (j + 1))) := fun hp => by
              have := ih (j + 1) k (sum + s[j].f1) (by omega) (by omega) (by omega) (by omega) (by omega)
              rw [prev_succ s j hjl] at this
              rw [show ((j : Int) + 1) = ((j + 1 : Nat) : Int) by omega, this, good_iff.2 ⟨by omega, by omega, by omega, by omega, hp⟩, Bool.true_and]
            by_cases c4 : (j : Int) > 0
            · have hpe : prevAt s j = (rd_T61 s ((j : Int) - 1)).f0 := if_neg (by omega)
              rw [if_pos c4, w64 (x := (j : Int) - 1) (by omega) (by omega), if_pos (by omega), if_pos (by omega), ← hpe]
              by_cases c5 : s[j].f0 ≤ prevAt s j
              · rw [if_pos c5]; exact congrArg some (hb _ (hf (by omega)))
              · rw [if_neg c5]; exact hrec (by omega)
            · rw [if_neg c4]
              have hpe : prevAt s j = -961 := if_pos (by omega)
              exact hrec (by omega)
/-- May a sketch be? -/
def may (s : List S61) : Bool := okS 0 (-961) s
theorem check_eq (s : List S61) (hw : Wf s) (hl : s.length ≤ 9223372036854775807) (k : Nat) (hk : s.length < k) : sketch_Check.f k s = some (if may s = true then 0 else 1) :=
  check_l0 s hw hl s.length 0 k 0 (by omega) (by omega) hk (by omega) (by omega)
theorem rmay_eq (s : List S61) (hw : Wf s) (hl : s.length ≤ 9223372036854775807) (k : Nat) (hk : s.length < k) : headgateref29_May.f k s = some (may s) :=
  may_l0 s hw hl s.length 0 k 0 (by omega) (by omega) hk (by omega) (by omega)
end Go.Proofs.Ytgijangnoekbjaa.Sc
set_option linter.unusedVariables false
set_option linter.unusedSimpArgs false
namespace Go.Proofs.Ytgijangnoekbjaa.Sa
open Go.RowKit Go.Proofs.Ytgijangnoekbjaa.Vm Go.Proofs.Ytgijangnoekbjaa.Sm Go.Proofs.Ytgijangnoekbjaa.Sp Go.Proofs.Ytgijangnoekbjaa.Sc Go.Proofs.Ytgijangnoekbjaa.P Go.Proofs.YtgijangnoekbjaaW.PrintWords Go.Proofs.YtgijangnoekbjaaW.PrintLast
/-- A bucket counted in a sketch. -/
def ins : List S61 → Int → Int → List S61
  | [], x, n => [⟨x, n⟩]
  | y :: s, x, n => if y.f0 < x then y :: ins s x n else if y.f0 = x then ⟨x, y.f1 + n⟩ :: s else ⟨x, n⟩ :: y :: s
def Srt (s : List S61) : Prop := s.Pairwise fun a b => a.f0 < b.f0
def Bd (s : List S61) : Prop := ∀ y ∈ s, -960 ≤ y.f0 ∧ y.f0 < 960 ∧ 1 ≤ y.f1
theorem okS_iff (s : List S61) : ∀ (sum prev : Int), sum ≤ 1099511627776 → (okS sum prev s = true ↔ Bd s ∧ (∀ y ∈ s, prev < y.f0) ∧ Srt s ∧ sum + tot s ≤ 1099511627776) := by
  induction s with
  | nil =>
    intro sum prev h
    refine ⟨fun _ => ⟨fun y hy => (by cases hy), fun y hy => (by cases hy), List.Pairwise.nil, ?_⟩, fun _ => rfl⟩
    show sum + 0 ≤ _
    omega
  | cons x r ih =>
    intro sum prev h
    have ht : tot (x :: r) = x.f1 + tot r := rfl
    have hd : okS sum prev (x :: r) = (good sum prev x && okS (sum + x.f1) x.f0 r) := rfl
    rw [hd, Bool.and_eq_true, good_iff]
    constructor
    · rintro ⟨⟨a1, a2, a3, a4, a5⟩, h2⟩
      obtain ⟨b1, b2, b3, b4⟩ := (ih _ _ (by omega)).1 h2
      refine ⟨fun y hy => ?_, fun y hy => ?_, List.pairwise_cons.2 ⟨b2, b3⟩, by omega⟩
      · rcases List.mem_cons.1 hy with rfl | hy
        · exact ⟨a1, a2, a3⟩
        · exact b1 y hy
      · rcases List.mem_cons.1 hy with rfl | hy
        · exact a5
        · have := b2 y hy; omega
    · rintro ⟨b1, b2, b3, b4⟩
      obtain ⟨a1, a2, a3⟩ := b1 x List.mem_cons_self
      have hr : Bd r := fun y hy => b1 y (List.mem_cons_of_mem _ hy)
      have h0 : 0 ≤ tot r := by
        clear ih b1 b2 b3 b4 ht hd
        induction r with
        | nil => exact Int.le_refl _
        | cons z r ih2 =>
          have e : tot (z :: r) = z.f1 + tot r := rfl
          have := (hr z List.mem_cons_self).2.2
          have := ih2 (fun y hy => hr y (List.mem_cons_of_mem _ hy))
          omega
      exact ⟨⟨a1, a2, a3, by omega, b2 x List.mem_cons_self⟩, (ih _ _ (by omega)).2 ⟨hr, (List.pairwise_cons.1 b3).1, (List.pairwise_cons.1 b3).2, by omega⟩⟩
theorem may_iff (s : List S61) : may s = true ↔ Bd s ∧ Srt s ∧ tot s ≤ 1099511627776 := by
  unfold may
  rw [okS_iff s 0 (-961) (by omega)]
  constructor
  · rintro ⟨a, b, c, d⟩; exact ⟨a, c, by omega⟩
  · rintro ⟨a, c, d⟩; exact ⟨a, fun y hy => by have := a y hy; omega, c, by omega⟩
theorem len_le {s : List S61} (h : may s = true) : s.length ≤ 1920 := by
  obtain ⟨a, b, c⟩ := (may_iff s).1 h
  have key : ∀ j, (hj : j < s.length) → (j : Int) - 960 ≤ s[j].f0 := by
    intro j
    induction j with
    | zero => intro hj; have := (a _ (List.getElem_mem hj)).1; omega
    | succ j ih =>
      intro hj
      have p := ih (by omega)
      have q := List.pairwise_iff_getElem.1 b j (j + 1) (by omega) hj (by omega)
      omega
  rcases Nat.lt_or_ge 1920 s.length with h1 | h1
  · have p := key 1920 h1
    have q := (a _ (List.getElem_mem h1)).2.1
    omega
  · exact h1
theorem wf_may {s : List S61} (h : may s = true) : ∀ y ∈ s, -960 ≤ y.f0 ∧ y.f0 < 960 ∧ 1 ≤ y.f1 ∧ y.f1 ≤ 1099511627776 := by
  intro y hy
  obtain ⟨t1, t2, t3⟩ := tot_le (show okS 0 (-961) s = true from h) (by omega)
  have := t3 y hy
  omega
theorem wf_of {s : List S61} (h : may s = true) : Wf s := by
  intro y hy
  have := wf_may h y hy
  refine ⟨?_, ?_⟩ <;> (simp [Lit.wf, IntKind.min, IntKind.max, IntKind.signed, IntKind.bits]; omega)
/-- What sketch.put comes to. -/
theorem put_v (s : List S61) (x n : Int) : sketch_put.v s x n = ins s x n := by
  induction s with
  | nil => rfl
  | cons y s ih =>
    unfold ins
    have hlt : lt061 (y :: s) x = if y.f0 < x then lt061 s x + 1 else 0 := by
      unfold lt061
      rw [List.takeWhile_cons]
      by_cases c : y.f0 < x
      · rw [if_pos (by simpa using c), if_pos c]; rfl
      · rw [if_neg (by simpa using c), if_neg c]; rfl
    by_cases c : y.f0 < x
    · rw [if_pos c, ← ih]
      rw [if_pos c] at hlt
      unfold sketch_put.v
      rw [hlt]
      have hrd : rd_T61 (y :: s) ((lt061 s x + 1 : Nat) : Int) = rd_T61 s (lt061 s x : Int) := by
        simp [rd_T61]
      rw [hrd]
      by_cases d : lt061 s x < s.length ∧ (rd_T61 s (lt061 s x : Int)).f0 = x
      · rw [if_pos d, if_pos ⟨by simpa using d.1, d.2⟩]; rfl
      · rw [if_neg d, if_neg (fun h => d ⟨by simpa using h.1, h.2⟩)]; rfl
    · rw [if_neg c]
      rw [if_neg c] at hlt
      unfold sketch_put.v
      rw [hlt]
      have hrd : rd_T61 (y :: s) ((0 : Nat) : Int) = y := by simp [rd_T61]
      rw [hrd]
      by_cases d : y.f0 = x
      · rw [if_pos d, if_pos ⟨by simp, d⟩]; rfl
      · rw [if_neg d, if_neg (fun h => d h.2)]; rfl
theorem put_eq {s : List S61} {x n : Int} (h : may s = true) (hx : -960 ≤ x ∧ x < 960) (hn : 0 ≤ n ∧ n ≤ 1099511627776) : sketch_put.f s x n = some (ins s x n) := by
  have h1 := wf_may h
  have h2 := ((may_iff s).1 h).2.1
  have h3 := len_le h
  unfold sketch_put.f
  rw [if_pos, put_v]
  simp only [sketch_put.okB, Bool.and_eq_true, decide_eq_true_eq, List.all_eq_true]
  exact ⟨⟨⟨h2, fun y hy => by have := h1 y hy; omega⟩, by omega⟩, by omega⟩
instance : DecidableEq S61 := fun a b => decidable_of_iff (a.f0 = b.f0 ∧ a.f1 = b.f1) ⟨fun h => by cases a; cases b; simp only at h; rw [h.1, h.2], fun h => by rw [h]; exact ⟨rfl, rfl⟩⟩
theorem same_l0 (s t : List S61) (hl : s.length = t.length) (hs : s.length ≤ 9223372036854775807) (d : Nat) : ∀ (j k : Nat), s.length - j = d → j ≤ s.length → d < k →
    headgateref29_Same.l0 k s t (j : Int) = some (decide (s.drop j = t.drop j)) := by
  induction d with
  | zero =>
    intro j k hd hj hk
    obtain ⟨k, rfl⟩ : ∃ m, k = m + 1 := ⟨k - 1, by omega⟩
    rw [headgateref29_Same.l0, if_neg (by omega), List.drop_of_length_le (by omega), List.drop_of_length_le (by omega)]
    simp
  | succ d ih =>
    intro j k hd hj hk
    obtain ⟨k, rfl⟩ : ∃ m, k = m + 1 := ⟨k - 1, by omega⟩
    have h1 : j < s.length := by omega
    have h2 : j < t.length := by omega
    rw [headgateref29_Same.l0, if_pos (by omega), if_pos (by omega), if_pos (by omega), rd_at s j h1, rd_at t j h2, List.drop_eq_getElem_cons h1]
    by_cases c : s[j] = t[j]
    · rw [if_neg (by rw [c]; simp), show wrap64 ((j : Int) + 1) = ((j + 1 : Nat) : Int) by rw [w64 (by omega) (by omega)]; omega, ih (j + 1) k (by omega) (by omega) (by omega)]
      congr 1
      rw [decide_eq_decide, List.drop_eq_getElem_cons h2, c]
      exact ⟨fun h => by rw [h], fun h => (List.cons.inj h).2⟩
    · rw [if_pos]
      · congr 1
        symm
        rw [decide_eq_false_iff_not]
        intro h
        rw [List.drop_eq_getElem_cons h2] at h
        exact c (List.cons.inj h).1
      · rw [Bool.or_eq_true]
        by_cases e0 : s[j].f0 = t[j].f0
        · right
          simp only [Bool.not_eq_true', beq_eq_false_iff_ne, ne_eq]
          intro e1
          refine c ?_
          revert e0 e1
          generalize s[j] = p
          generalize t[j] = q
          intro e0 e1
          cases p; cases q; simp only at e0 e1; rw [e0, e1]
        · left
          simpa using e0
theorem same_eq (s t : List S61) (hs : s.length ≤ 9223372036854775807) (k : Nat) (hk : s.length < k) : headgateref29_Same.f k s t = some (decide (s = t)) := by
  unfold headgateref29_Same.f
  by_cases h : (s.length : Int) = (t.length : Int)
  · rw [if_pos h]
    have := same_l0 s t (by omega) hs s.length 0 k rfl (by omega) (by omega)
    exact this
  · rw [if_neg h, decide_eq_false (fun e => h (by rw [e]))]
theorem same_self (s : List S61) (hs : s.length ≤ 9223372036854775807) (k : Nat) (hk : s.length < k) : headgateref29_Same.f k s s = some true := by
  rw [same_eq s s hs k hk, decide_eq_true rfl]
end Go.Proofs.Ytgijangnoekbjaa.Sa
set_option linter.unusedVariables false
set_option linter.unusedSimpArgs false
namespace Go.Proofs.Ytgijangnoekbjaa.Se
open Go.RowKit Go.Proofs.Ytgijangnoekbjaa.Vm Go.Proofs.Ytgijangnoekbjaa.Sc Go.Proofs.Ytgijangnoekbjaa.Sa Go.Proofs.Ytgijangnoekbjaa.P Go.Proofs.YtgijangnoekbjaaW.PrintWords Go.Proofs.YtgijangnoekbjaaW.PrintLast
theorem w64 {x : Int} (h0 : -9223372036854775808 ≤ x) (h1 : x ≤ 9223372036854775807) : wrap64 x = x := by unfold wrap64; omega
/-- The numbers that a sketch is laid as. -/
def nums2 : Int → List S61 → List Int
  | _, [] => []
  | last, x :: s => (x.f0 - last) :: x.f1 :: nums2 x.f0 s
def bytes2 (last : Int) (s : List S61) : List UInt8 := (nums2 last s).flatMap enc
theorem bytes2_cons (last : Int) (x : S61) (s : List S61) : bytes2 last (x :: s) = enc (x.f0 - last) ++ (enc x.f1 ++ bytes2 x.f0 s) := by
  show ((x.f0 - last) :: x.f1 :: nums2 x.f0 s).flatMap enc = _
  rw [List.flatMap_cons, List.flatMap_cons]
  rfl
theorem bytes2_len (s : List S61) : ∀ last, (bytes2 last s).length ≤ 20 * s.length := by
  induction s with
  | nil => intro last; exact Nat.le_refl _
  | cons x s ih =>
    intro last
    have h1 := (enc_len (x.f0 - last)).2
    have h2 := (enc_len x.f1).2
    have h3 := ih x.f0
    rw [bytes2_cons, List.length_append, List.length_append, List.length_cons]
    omega
def encS (s : List S61) : List UInt8 := enc (s.length : Int) ++ bytes2 0 s
theorem encS_len (s : List S61) : (encS s).length ≤ 20 * s.length + 10 := by
  have h1 := (enc_len (s.length : Int)).2
  have h2 := bytes2_len s 0
  unfold encS
  rw [List.length_append]; omega
theorem bs_size (l : List UInt8) : (bs l).size = l.length := by simp [bs, ByteArray.size]
theorem i64_small {n : Int} (h0 : -1000000000000000 ≤ n) (h1 : n ≤ 1000000000000000) : I64 n := by unfold I64; omega
def encR (s : List S61) : ByteArray × Int := if may s = true then (bs (encS s), 0) else (bs [], 1)
theorem enc_l0 (s : List S61) (hm : may s = true) (d : Nat) : ∀ (j k : Nat) (acc : List UInt8) (last : Int), s.length - j = d → j ≤ s.length → d < k → -960 ≤ last → last < 960 → acc.length ≤ 20 * j + 10 →
    sketch_Encode.l0 k (bs acc) last s (s.length : Int) (j : Int) = some (bs (acc ++ bytes2 last (s.drop j)), 0) := by
  have hlen := len_le hm
  have hwf := wf_may hm
  induction d with
  | zero =>
    intro j k acc last hd hj hk h0 h1 ha
    obtain ⟨k, rfl⟩ : ∃ m, k = m + 1 := ⟨k - 1, by omega⟩
    rw [sketch_Encode.l0, if_neg (by omega), List.drop_of_length_le (by omega)]
    show _ = some (bs (acc ++ []), 0)
    rw [List.append_nil]
  | succ d ih =>
    intro j k acc last hd hj hk h0 h1 ha
    obtain ⟨k, rfl⟩ : ∃ m, k = m + 1 := ⟨k - 1, by omega⟩
    have hjl : j < s.length := by omega
    have hx := hwf _ (List.getElem_mem hjl)
    have he1 := (enc_len (s[j].f0 - last)).2
    have he2 := (enc_len s[j].f1).2
    have hp : varint_PutAll.f [s[j].f0 - last, s[j].f1] = some (bs (enc (s[j].f0 - last) ++ enc s[j].f1)) := by
      have := Vp.putAll_eq [s[j].f0 - last, s[j].f1] (by simp) (fun x hx2 => by
        rcases List.mem_cons.1 hx2 with rfl | hx2
        · exact i64_small (by omega) (by omega)
        · rcases List.mem_cons.1 hx2 with rfl | hx2
          · exact i64_small (by omega) (by omega)
          · cases hx2)
      rw [this]
      simp
    rw [sketch_Encode.l0, if_pos (by omega), if_pos (by omega), if_pos (by omega), rd_at s j hjl, w64 (x := s[j].f0 - last) (by omega) (by omega), hp, Option.bind_some, if_pos (by rw [bs_size, bs_size, List.length_append]; omega), append_bs, w64 (x := (j : Int) + 1) (by omega) (by omega), show (j : Int) + 1 = ((j + 1 : Nat) : Int) by omega,
      ih (j + 1) k _ _ (by omega) (by omega) (by omega) (by omega) (by omega) (by rw [List.length_append, List.length_append]; omega), List.drop_eq_getElem_cons hjl, bytes2_cons, List.append_assoc, List.append_assoc]
theorem encode_eq (s : List S61) (hw : Wf s) (hl : s.length ≤ 9223372036854775807) (k : Nat) (hk : s.length + 1 < k) : sketch_Encode.f k s = some (encR s) := by
  unfold sketch_Encode.f encR
  rw [check_eq s hw hl k (by omega), Option.bind_some]
  by_cases hm : may s = true
  · have hlen := len_le hm
    have h := enc_l0 s hm s.length 0 k (enc (s.length : Int)) 0 (by omega) (by omega) (by omega) (by omega) (by omega) (by have := (enc_len (s.length : Int)).2; omega)
    rw [if_pos hm, if_pos rfl, Vp.put_eq (i64_small (by omega) (by omega)), Option.bind_some, if_pos hm]
    exact h
  · rw [if_neg hm, if_neg (by decide), if_neg hm]
    rfl
def prev (s : List S61) (j : Nat) : Int := if j = 0 then 0 else (rd_T61 s ((j : Int) - 1)).f0
theorem prev_succ2 (s : List S61) (j : Nat) (h : j < s.length) : prev s (j + 1) = s[j].f0 := by
  unfold prev
  rw [if_neg (by omega), show ((j + 1 : Nat) : Int) - 1 = (j : Int) by omega, rd_at s j h]
theorem renc_l0 (s : List S61) (hm : may s = true) (d : Nat) : ∀ (j k : Nat) (acc : List UInt8), s.length - j = d → j ≤ s.length → d + 20 < k → acc.length ≤ 20 * j + 10 →
    headgateref29_Encode.l0 k s (bs acc) (j : Int) = some (bs (acc ++ bytes2 (prev s j) (s.drop j)), 0) := by
  have hlen := len_le hm
  have hwf := wf_may hm
  induction d with
  | zero =>
    intro j k acc hd hj hk ha
    obtain ⟨k, rfl⟩ : ∃ m, k = m + 1 := ⟨k - 1, by omega⟩
    rw [headgateref29_Encode.l0, if_neg (by omega), List.drop_of_length_le (by omega)]
    show _ = some (bs (acc ++ []), 0)
    rw [List.append_nil]
  | succ d ih =>
    intro j k acc hd hj hk ha
    obtain ⟨k, rfl⟩ : ∃ m, k = m + 1 := ⟨k - 1, by omega⟩
    have hjl : j < s.length := by omega
    have hx := hwf _ (List.getElem_mem hjl)
    have he2 := (enc_len s[j].f1).2
    have fin : ∀ v : Int, v = s[j].f0 - prev s j → I64 v → ((headgateref01_Put.f k v).bind fun t189 => (if (bs acc).size + t189.size ≤ 9223372036854775807 then ((headgateref01_Put.f k s[j].f1).bind fun t191 => (if (bs acc ++ t189).size + t191.size ≤ 9223372036854775807 then (headgateref29_Encode.l0 k s ((bs acc ++ t189) ++ t191) (wrap64 ((j : Int) + 1))) else (none))) else (none))) = some (bs (acc ++ bytes2 (prev s j) (s.drop j)), 0) := fun v hv hi => by
      have he1 := (enc_len v).2
      rw [Vref.put_f v hi k (by omega), Option.bind_some, if_pos (by rw [bs_size, bs_size]; omega), Vref.put_f s[j].f1 (i64_small (by omega) (by omega)) k (by omega), Option.bind_some, append_bs, if_pos (by rw [bs_size, bs_size, List.length_append]; omega), append_bs, w64 (x := (j : Int) + 1) (by omega) (by omega), show (j : Int) + 1 = ((j + 1 : Nat) : Int) by omega,
        ih (j + 1) k _ (by omega) (by omega) (by omega) (by rw [List.length_append, List.length_append]; omega), List.drop_eq_getElem_cons hjl, bytes2_cons, prev_succ2 s j hjl, hv, List.append_assoc, List.append_assoc]
    rw [headgateref29_Encode.l0, if_pos (by omega), if_pos (by omega)]
    by_cases c : (j : Int) > 0
    · have hpj : j - 1 < s.length := by omega
      have hpv : prev s j = s[j - 1].f0 := by
        have := prev_succ2 s (j - 1) hpj
        rwa [show j - 1 + 1 = j by omega] at this
      have hy := hwf _ (List.getElem_mem hpj)
      have hrd : rd_T61 s ((j : Int) - 1) = s[j - 1] := by
        have := rd_at s (j - 1) hpj
        rwa [show ((j - 1 : Nat) : Int) = (j : Int) - 1 by omega] at this
      rw [if_pos c, w64 (x := (j : Int) - 1) (by omega) (by omega), if_pos (by omega), if_pos (by omega), rd_at s j hjl, hrd, w64 (x := s[j].f0 - s[j - 1].f0) (by omega) (by omega)]
      exact fin _ (by rw [hpv]) (i64_small (by omega) (by omega))
    · have hpv : prev s j = 0 := if_pos (by omega)
      rw [if_neg c, rd_at s j hjl]
      exact fin _ (by rw [hpv]; omega) (i64_small (by omega) (by omega))
theorem rencode_eq (s : List S61) (hw : Wf s) (hl : s.length ≤ 9223372036854775807) (k : Nat) (hk : s.length + 30 < k) : headgateref29_Encode.f k s = some (encR s) := by
  unfold headgateref29_Encode.f encR
  rw [rmay_eq s hw hl k (by omega), Option.bind_some]
  by_cases hm : may s = true
  · have hlen := len_le hm
    have h := renc_l0 s hm s.length 0 k (enc (s.length : Int)) (by omega) (by omega) (by omega) (by have := (enc_len (s.length : Int)).2; omega)
    rw [if_pos hm, Vref.put_f (s.length : Int) (i64_small (by omega) (by omega)) k (by omega), Option.bind_some, if_pos hm]
    exact h
  · rw [if_neg hm, if_neg hm]
    rfl
/-- What is read of bytes: so many buckets. -/
def decS : Nat → Int → List UInt8 → Option (List S61 × List UInt8)
  | 0, _, l => some ([], l)
  | n + 1, last, l => (dec l).bind fun p => (dec p.2).bind fun q => if -1920 ≤ p.1 ∧ p.1 ≤ 1920 then (decS n (last + p.1) q.2).map fun z => ((⟨last + p.1, q.1⟩ : S61) :: z.1, z.2) else none
def finS : Option (List S61 × List UInt8) → List S61 × Int
  | some (s, r) => if r = [] ∧ may s = true then (s, 0) else ([], 2)
  | none => ([], 2)
def decR (l : List UInt8) : List S61 × Int := match dec l with
  | some (n, r) => if 0 ≤ n ∧ n ≤ 1920 then finS (decS n.toNat 0 r) else ([], 2)
  | none => ([], 2)
theorem decS_some : ∀ (n : Nat) (last : Int) (l : List UInt8) (s : List S61) (r : List UInt8), decS n last l = some (s, r) → l = bytes2 last s ++ r ∧ s.length = n
  | 0, last, l, s, r, h => by
    injection h with h
    injection h with h1 h2
    subst h1; subst h2
    exact ⟨rfl, rfl⟩
  | n + 1, last, l, s, r, h => by
    unfold decS at h
    obtain ⟨⟨d, r1⟩, h1, h⟩ := Option.bind_eq_some_iff.1 h
    obtain ⟨⟨m, r2⟩, h2, h⟩ := Option.bind_eq_some_iff.1 h
    dsimp only at h h2
    split at h
    case isFalse => cases h
    obtain ⟨⟨s', r'⟩, h3, h4⟩ := Option.map_eq_some_iff.1 h
    injection h4 with h5 h6
    subst h5; subst h6
    obtain ⟨h7, h8⟩ := decS_some n _ _ _ _ h3
    have e1 := ((dec_iff _ _ _).1 h1).1
    have e2 := ((dec_iff _ _ _).1 h2).1
    refine ⟨?_, by rw [List.length_cons, h8]⟩
    rw [bytes2_cons]
    dsimp only
    rw [show last + d - last = d by omega, e1, e2, h7]
    simp only [List.append_assoc]
theorem decS_enc : ∀ (s : List S61) (last : Int) (r : List UInt8), (∀ y ∈ s, -960 ≤ y.f0 ∧ y.f0 < 960 ∧ I64 y.f1) → -960 ≤ last → last < 960 → decS s.length last (bytes2 last s ++ r) = some (s, r)
  | [], last, r, h, h0, h1 => rfl
  | x :: s, last, r, h, h0, h1 => by
    have hx := h x List.mem_cons_self
    rw [bytes2_cons, List.length_cons, decS, List.append_assoc, List.append_assoc, dec_enc (i64_small (by omega) (by omega)), Option.bind_some]
    dsimp only
    rw [dec_enc hx.2.2, Option.bind_some]
    dsimp only
    rw [if_pos (by omega), show last + (x.f0 - last) = x.f0 by omega, decS_enc s x.f0 r (fun y hy => h y (List.mem_cons_of_mem _ hy)) hx.1 hx.2.1]
    rfl
theorem decR_enc {s : List S61} (hm : may s = true) : decR (encS s) = (s, 0) := by
  have hlen := len_le hm
  have hwf := wf_may hm
  have h := decS_enc s 0 [] (fun y hy => by have := hwf y hy; exact ⟨this.1, this.2.1, i64_small (by omega) (by omega)⟩) (by omega) (by omega)
  rw [List.append_nil] at h
  unfold decR encS
  rw [dec_enc (i64_small (by omega) (by omega))]
  dsimp only
  rw [if_pos (by omega), Int.toNat_natCast, h]
  exact if_pos ⟨rfl, hm⟩
theorem decR_some {l : List UInt8} {s : List S61} (h : decR l = (s, 0)) : may s = true ∧ encS s = l := by
  unfold decR at h
  split at h
  case h_2 => injection h with _ h2; exact absurd h2 (by decide)
  rename_i n r hd
  split at h
  case isFalse => injection h with _ h2; exact absurd h2 (by decide)
  rename_i hn
  unfold finS at h
  split at h
  case h_2 => injection h with _ h2; exact absurd h2 (by decide)
  rename_i s' r' hs
  split at h
  case isFalse => injection h with _ h2; exact absurd h2 (by decide)
  rename_i hr
  injection h with h1 _
  subst h1
  obtain ⟨h3, h4⟩ := decS_some _ _ _ _ _ hs
  have e1 := ((dec_iff _ _ _).1 hd).1
  refine ⟨hr.2, ?_⟩
  rw [hr.1, List.append_nil] at h3
  unfold encS
  rw [h4, Int.toNat_of_nonneg hn.1, e1, h3]
theorem decR_wf (l : List UInt8) : Wf (decR l).1 ∧ (decR l).1.length ≤ 1920 := by
  have key : (decR l).1 = [] ∨ may (decR l).1 = true := by
    unfold decR
    split
    · split
      · unfold finS
        split
        · split
          · rename_i h; exact .inr h.2
          · exact .inl rfl
        · exact .inl rfl
      · exact .inl rfl
    · exact .inl rfl
  rcases key with h | h
  · rw [h]; exact ⟨fun y hy => (by cases hy), by decide⟩
  · exact ⟨wf_of h, len_le h⟩
theorem wf_mk {a b : Int} (ha : I64 a) (hb : I64 b) : wf61 ⟨a, b⟩ := by
  unfold I64 at ha hb
  refine ⟨?_, ?_⟩ <;> (simp [Lit.wf, IntKind.min, IntKind.max, IntKind.signed, IntKind.bits]; omega)
theorem nil_iff (l : List UInt8) : ((bs l).toList = ([] : List UInt8)) ↔ l = [] := by
  rw [show (bs l).toList = l from by simp [bs, ByteArray.toList_eq]]
theorem dec_l0 (d : Nat) : ∀ (i k : Nat) (n : Nat) (acc : List S61) (last : Int) (l : List UInt8), n - i = d → i ≤ n → n ≤ 1920 → 2 * d + acc.length + 300 < k → l.length ≤ 9223372036854775800 → acc.length = i → Wf acc → -1920 * (i : Int) ≤ last → last ≤ 1920 * (i : Int) →
    sketch_Decode.l0 k (bs l) acc last (n : Int) (i : Int) = some (finS ((decS d last l).map fun z => (acc ++ z.1, z.2))) := by
  induction d with
  | zero =>
    intro i k n acc last l hd hi hn hk hl ha hw h0 h1
    obtain ⟨k, rfl⟩ : ∃ m, k = m + 1 := ⟨k - 1, by omega⟩
    rw [sketch_Decode.l0, if_neg (by omega)]
    show _ = some (finS (some (acc ++ [], l)))
    rw [List.append_nil]
    unfold finS
    dsimp only
    by_cases c : l = []
    · rw [if_pos ((nil_iff l).2 c), check_eq acc hw (by omega) k (by omega), Option.bind_some]
      by_cases hm : may acc = true
      · rw [if_pos hm, if_pos rfl, if_pos ⟨c, hm⟩]
      · rw [if_neg hm, if_neg (by decide), if_neg (fun h => hm h.2)]
    · rw [if_neg (fun h => c ((nil_iff l).1 h)), if_neg (fun h => c h.1)]
  | succ d ih =>
    intro i k n acc last l hd hi hn hk hl ha hw h0 h1
    obtain ⟨k, rfl⟩ : ∃ m, k = m + 1 := ⟨k - 1, by omega⟩
    rw [sketch_Decode.l0, if_pos (by omega), Vp.takeAll_eq l hl 2 k (by omega), Option.bind_some]
    have hta : Vp.takeAllR l 2 = Vp.allR (Vp.decN 2 l) := by
      unfold Vp.takeAllR
      rw [if_neg (by decide)]
      rfl
    rw [hta]
    unfold decS
    cases e1 : dec l with
    | none =>
      have : Vp.decN 2 l = none := by simp [Vp.decN, e1]
      rw [this]
      rfl
    | some p =>
      obtain ⟨x, r1⟩ := p
      rw [Option.bind_some]
      dsimp only
      cases e2 : dec r1 with
      | none =>
        have : Vp.decN 2 l = none := by simp [Vp.decN, e1, e2]
        rw [this]
        rfl
      | some q =>
        obtain ⟨y, r2⟩ := q
        have hd2 : Vp.decN 2 l = some ([x, y], r2) := by simp [Vp.decN, e1, e2]
        have hx := ((dec_iff _ _ _).1 e1)
        have hy := ((dec_iff _ _ _).1 e2)
        rw [hd2, Option.bind_some]
        have hall : Vp.allR (some ([x, y], r2)) = ([x, y], bs r2, 0) := rfl
        rw [hall]
        dsimp only
        have q0 : rd [x, y] 0 = x := rfl
        have q1 : rd [x, y] 1 = y := rfl
        rw [if_pos rfl, if_pos (show (0 : Int) < (([x, y].length : Nat) : Int) by simp), q0, q1]
        by_cases c1 : x < -1920
        · rw [if_pos c1, if_neg (by omega)]
          rfl
        · rw [if_neg c1]
          by_cases c2 : x > 1920
          · rw [if_pos c2, if_neg (by omega)]
            rfl
          · have hr2 : r2.length ≤ 9223372036854775800 := by
              have a1 := congrArg List.length hx.1
              have a2 := congrArg List.length hy.1
              rw [List.length_append] at a1 a2
              omega
            rw [if_neg c2, if_pos (show (1 : Int) < (([x, y].length : Nat) : Int) by simp), if_pos (by omega), w64 (x := last + x) (by omega) (by omega), w64 (x := (i : Int) + 1) (by omega) (by omega), show (i : Int) + 1 = ((i + 1 : Nat) : Int) by omega,
              ih (i + 1) k n _ (last + x) r2 (by omega) (by omega) hn (by rw [List.length_append]; simp; omega) hr2 (by rw [List.length_append]; simp; omega) (fun z hz => by
                rcases List.mem_append.1 hz with hz | hz
                · exact hw z hz
                · obtain rfl : z = ⟨last + x, y⟩ := by simpa using hz
                  exact wf_mk (i64_small (by omega) (by omega)) hy.2) (by omega) (by omega), if_pos (by omega)]
            cases decS d (last + x) r2 with
            | none => rfl
            | some z =>
              show some (finS (some (acc ++ [(⟨last + x, y⟩ : S61)] ++ z.1, z.2))) = some (finS (some (acc ++ (⟨last + x, y⟩ : S61) :: z.1, z.2)))
              rw [List.append_assoc]
              rfl
theorem decode_eq (l : List UInt8) (hl : l.length ≤ 9223372036854775800) (k : Nat) (hk : 5000 ≤ k) : sketch_Decode.f k (bs l) = some (decR l) := by
  obtain ⟨k, rfl⟩ : ∃ m, k = m + 1 := ⟨k - 1, by omega⟩
  have no : ∀ a b, sketch_Decode.j0 (k + 1) a b true = some ([], 2) := fun a b => by rw [sketch_Decode.j0, if_pos rfl]
  unfold sketch_Decode.f decR
  rw [Vp.take_eq l (by omega), Option.bind_some]
  cases e1 : dec l with
  | none => rw [Vp.takeR_n3, if_neg (by decide), no]
  | some p =>
    obtain ⟨n, r⟩ := p
    have hr : r.length ≤ 9223372036854775800 := by
      have a1 := congrArg List.length ((dec_iff _ _ _).1 e1).1
      rw [List.length_append] at a1
      omega
    rw [Vp.takeR_3, if_pos rfl, Vp.takeR_1, Vp.takeR_2]
    dsimp only
    by_cases c1 : n < 0
    · rw [if_pos c1, no, if_neg (by omega)]
    · rw [if_neg c1]
      by_cases c2 : n > 1920
      · rw [decide_eq_true c2, no, if_neg (by omega)]
      · have h := dec_l0 n.toNat 0 k n.toNat [] 0 r (by omega) (by omega) (by omega) (by simp; omega) hr rfl (fun y hy => (by cases hy)) (by omega) (by omega)
        rw [Int.toNat_of_nonneg (by omega)] at h
        rw [decide_eq_false c2, sketch_Decode.j0, if_neg Bool.false_ne_true, if_pos (by omega)]
        refine Eq.trans h ?_
        cases decS n.toNat 0 r with
        | none => rfl
        | some z => rfl
theorem rdec_l0 (d : Nat) : ∀ (i k : Nat) (n : Nat) (acc : List S61) (l : List UInt8), n - i = d → i ≤ n → n ≤ 1920 → 3 * d + acc.length + 300 < k → l.length ≤ 9223372036854775800 → acc.length = i → Wf acc → -1920 * (i : Int) ≤ prev acc i → prev acc i ≤ 1920 * (i : Int) →
    headgateref29_Decode.l0 k (n : Int) (bs l) acc (i : Int) = some (finS ((decS d (prev acc i) l).map fun z => (acc ++ z.1, z.2))) := by
  induction d with
  | zero =>
    intro i k n acc l hd hi hn hk hl ha hw h0 h1
    obtain ⟨k, rfl⟩ : ∃ m, k = m + 1 := ⟨k - 1, by omega⟩
    rw [headgateref29_Decode.l0, if_neg (by omega), bs_size]
    show _ = some (finS (some (acc ++ [], l)))
    rw [List.append_nil]
    unfold finS
    dsimp only
    by_cases c : l = []
    · rw [if_neg (by rw [c]; decide), rmay_eq acc hw (by omega) k (by omega), Option.bind_some]
      by_cases hm : may acc = true
      · rw [if_pos hm, if_pos ⟨c, hm⟩]
      · rw [if_neg hm, if_neg (fun h => hm h.2)]
    · have : 0 < l.length := List.length_pos_iff.2 c
      rw [if_pos (by omega), if_neg (fun h => c h.1)]
  | succ d ih =>
    intro i k n acc l hd hi hn hk hl ha hw h0 h1
    obtain ⟨k, rfl⟩ : ∃ m, k = m + 2 := ⟨k - 2, by omega⟩
    have no : ∀ a b c d e f, headgateref29_Decode.j2 (k + 1) a b c d e f true = some ([], 2) := fun a b c d e f => by rw [headgateref29_Decode.j2, if_pos rfl]
    rw [headgateref29_Decode.l0, if_pos (by omega), Vref.take_f l hl (k + 1) (by omega), Option.bind_some]
    unfold decS
    cases e1 : dec l with
    | none =>
      rw [Vp.takeR_n2, Vref.take_f [] (by simp) (k + 1) (by omega), Option.bind_some, Vp.takeR_n3, if_neg (by decide), no]
      rfl
    | some p =>
      obtain ⟨x, r1⟩ := p
      have hx := ((dec_iff _ _ _).1 e1)
      have hr1 : r1.length ≤ 9223372036854775800 := by
        have a1 := congrArg List.length hx.1
        rw [List.length_append] at a1
        omega
      rw [Vp.takeR_2, Vref.take_f r1 hr1 (k + 1) (by omega), Option.bind_some, Option.bind_some, Vp.takeR_3, if_pos rfl, Vp.takeR_1]
      dsimp only
      cases e2 : dec r1 with
      | none =>
        rw [Vp.takeR_n3, if_neg (by decide), no]
        rfl
      | some q =>
        obtain ⟨y, r2⟩ := q
        have hy := ((dec_iff _ _ _).1 e2)
        rw [Vp.takeR_3, if_pos rfl, Vp.takeR_1, Vp.takeR_2, Option.bind_some]
        dsimp only
        by_cases c1 : x < -1920
        · rw [if_pos c1, no, if_neg (by omega)]
          rfl
        · rw [if_neg c1]
          by_cases c2 : x > 1920
          · rw [decide_eq_true c2, no, if_neg (by omega)]
            rfl
          · have hr2 : r2.length ≤ 9223372036854775800 := by
              have a2 := congrArg List.length hy.1
              rw [List.length_append] at a2
              omega
            have fin : ∀ B : Int, B = prev acc i + x → headgateref29_Decode.l0 k (n : Int) (bs r2) (acc ++ [(⟨B, y⟩ : S61)]) ((i + 1 : Nat) : Int) = some (finS (((decS d (prev acc i + x) r2).map fun z => ((⟨prev acc i + x, y⟩ : S61) :: z.1, z.2)).map fun z => (acc ++ z.1, z.2))) := fun B hB => by
              have hpv : prev (acc ++ [(⟨B, y⟩ : S61)]) (i + 1) = B := by
                rw [prev_succ2 _ i (by rw [List.length_append]; simp; omega)]
                rw [List.getElem_append_right (by omega)]
                simp [ha]
              have h := ih (i + 1) k n (acc ++ [(⟨B, y⟩ : S61)]) r2 (by omega) (by omega) hn (by rw [List.length_append]; simp; omega) hr2 (by rw [List.length_append]; simp; omega) (fun z hz => by
                rcases List.mem_append.1 hz with hz | hz
                · exact hw z hz
                · obtain rfl : z = ⟨B, y⟩ := by simpa using hz
                  exact wf_mk (i64_small (by omega) (by omega)) hy.2) (by rw [hpv]; omega) (by rw [hpv]; omega)
              rw [hpv, hB] at h
              rw [hB]
              refine Eq.trans h ?_
              cases decS d (prev acc i + x) r2 with
              | none => rfl
              | some z =>
                show some (finS (some (acc ++ [(⟨prev acc i + x, y⟩ : S61)] ++ z.1, z.2))) = some (finS (some (acc ++ (⟨prev acc i + x, y⟩ : S61) :: z.1, z.2)))
                rw [List.append_assoc]
                rfl
            rw [decide_eq_false c2, headgateref29_Decode.j2, if_neg Bool.false_ne_true, w64 (x := (i : Int) + 1) (by omega) (by omega), show (i : Int) + 1 = ((i + 1 : Nat) : Int) by omega, if_pos (show -1920 ≤ x ∧ x ≤ 1920 by omega)]
            by_cases c3 : (i : Int) > 0
            · have hpv : prev acc i = (rd_T61 acc ((i : Int) - 1)).f0 := if_neg (by omega)
              rw [if_pos c3, w64 (x := (i : Int) - 1) (by omega) (by omega), if_pos (by omega), if_pos (by omega), if_pos (by omega), ← hpv, w64 (x := x + prev acc i) (by omega) (by omega)]
              exact fin _ (by omega)
            · have hpv : prev acc i = 0 := if_pos (by omega)
              rw [if_neg c3, if_pos (by omega)]
              exact fin _ (by omega)
theorem rdecode_eq (l : List UInt8) (hl : l.length ≤ 9223372036854775800) (k : Nat) (hk : 7000 ≤ k) : headgateref29_Decode.f k (bs l) = some (decR l) := by
  obtain ⟨k, rfl⟩ : ∃ m, k = m + 1 := ⟨k - 1, by omega⟩
  have no : ∀ a b, headgateref29_Decode.j0 (k + 1) a b true = some ([], 2) := fun a b => by rw [headgateref29_Decode.j0, if_pos rfl]
  unfold headgateref29_Decode.f decR
  rw [Vref.take_f l hl (k + 1) (by omega), Option.bind_some]
  cases e1 : dec l with
  | none => rw [Vp.takeR_n3, if_neg (by decide), no]
  | some p =>
    obtain ⟨n, r⟩ := p
    have hr : r.length ≤ 9223372036854775800 := by
      have a1 := congrArg List.length ((dec_iff _ _ _).1 e1).1
      rw [List.length_append] at a1
      omega
    rw [Vp.takeR_3, if_pos rfl, Vp.takeR_1, Vp.takeR_2]
    dsimp only
    by_cases c1 : n < 0
    · rw [if_pos c1, no, if_neg (by omega)]
    · rw [if_neg c1]
      by_cases c2 : n > 1920
      · rw [decide_eq_true c2, no, if_neg (by omega)]
      · have h := rdec_l0 n.toNat 0 k n.toNat [] r (by omega) (by omega) (by omega) (by simp; omega) hr rfl (fun y hy => (by cases hy)) (by show _ ≤ (0 : Int); omega) (by show (0 : Int) ≤ _; omega)
        rw [Int.toNat_of_nonneg (by omega)] at h
        rw [decide_eq_false c2, headgateref29_Decode.j0, if_neg Bool.false_ne_true, if_pos (by omega)]
        refine Eq.trans h ?_
        have hp0 : prev ([] : List S61) 0 = 0 := rfl
        rw [hp0]
        cases decS n.toNat 0 r with
        | none => rfl
        | some z => rfl
end Go.Proofs.Ytgijangnoekbjaa.Se
set_option linter.unusedVariables false
namespace Go.Proofs.Ytgijangnoekbjaa.Pure
open Go.RowKit Go.Proofs.Ytgijangnoekbjaa.Vm Go.Proofs.Ytgijangnoekbjaa.Sm Go.Proofs.Ytgijangnoekbjaa.Sp Go.Proofs.Ytgijangnoekbjaa.Sc Go.Proofs.Ytgijangnoekbjaa.Sa Go.Proofs.Ytgijangnoekbjaa.Se Go.Proofs.Ytgijangnoekbjaa.P Go.Proofs.YtgijangnoekbjaaW.PrintWords Go.Proofs.YtgijangnoekbjaaW.PrintLast
theorem SketchCodes : headgatelaw29_SketchCodes.Pure := by
  intro s b h0 h1
  obtain ⟨l, rfl⟩ := bs_of b
  refine ⟨9003, ?_⟩
  unfold headgatelaw29_SketchCodes.f headgatelaw29_light.f
  rw [Option.bind_some]
  have jt : headgatelaw29_SketchCodes.j0 9003 s (bs l) true = some true := by
    rw [headgatelaw29_SketchCodes.j0, if_pos rfl, awake_eq, Option.bind_some]
  by_cases c : (s.length : Int) ≤ 200
  · rw [if_pos (decide_eq_true c)]
    by_cases c2 : ((bs l).size : Int) > 3000
    · rw [decide_eq_true c2]; exact jt
    · rw [bs_size] at c2
      have hw := decR_wf l
      have j2 : headgatelaw29_SketchCodes.j2 9001 s (encR s).1 (encR s).2 = some true := by
        rw [headgatelaw29_SketchCodes.j2]
        unfold encR
        by_cases m : may s = true
        · have he := encS_len s
          rw [if_pos m, if_pos rfl, decode_eq (encS s) (by omega) _ (by omega), Option.bind_some, decR_enc m, if_pos rfl, same_self s (by omega) _ (by omega), Option.bind_some, if_pos rfl, awake_eq, Option.bind_some]
        · rw [if_neg m, if_neg (by decide), if_pos (by simp [bs]), awake_eq, Option.bind_some]
      have j1 : headgatelaw29_SketchCodes.j1 9002 s (bs l) (encR s).1 (encR s).2 (decR l).1 (decR l).2 false = some true := by
        rw [headgatelaw29_SketchCodes.j1, if_neg (by decide)]
        by_cases g : (decR l).2 = 0
        · have hd := decR_some (show decR l = ((decR l).1, 0) by rw [← g])
          rw [if_pos g, encode_eq _ hw.1 (by omega) _ (by omega), Option.bind_some]
          unfold encR at j2 ⊢
          rw [if_pos hd.1, hd.2]
          rw [if_pos rfl, if_pos rfl]
          exact j2
        · rw [if_neg g]; exact j2
      rw [bs_size, decide_eq_false c2, headgatelaw29_SketchCodes.j0, if_neg (by decide), encode_eq s h0.2 h0.1 _ (by omega), Option.bind_some, rencode_eq s h0.2 h0.1 _ (by omega), Option.bind_some, decode_eq l (by omega) _ (by omega), Option.bind_some, rdecode_eq l (by omega) _ (by omega), Option.bind_some, if_pos rfl, if_pos rfl, same_self _ (by omega) _ (by omega), Option.bind_some, if_pos rfl, bne_self_eq_false]
      exact j1
  · rw [if_neg (by simpa using c)]; exact jt
end Go.Proofs.Ytgijangnoekbjaa.Pure
