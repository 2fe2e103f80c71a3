/- The entries with which any bytes (100,000 at most) begin are those that the document says, and behind them stands no frame. No condition. -/
import Derived.Test.YtgfmbddkefjchaaPx2
import Derived.Test.YtgfmbddkefjchaaPx3
import Derived.Test.YtgfmbddkefjchaaPx4
import Derived.Test.YtgfmbddkefjchaaPx5
import Derived.Test.YtgfmbddkefjchaaPx6
import Derived.Test.YtgfmbddkefjchaaPx7
import Derived.Test.YtgfmbddkefjchaaPx8
import Derived.Test.YtgfmbddkefjchaaPx9
import Derived.Test.YtgfmbddkefjchaaPx10
import Derived.Test.YtgfmbddkefjchaaPx11
import Derived.Test.YtgfmbddkefjchaaPx13
import Derived.Test.YtgfmbddkefjchaaPx14
import Derived.Test.YtgfmbddkefjchaaPx15
import Derived.Test.YtgfmbddkefjchaaPx16
import Derived.Test.YtgfmbddkefjchaaPx17
import Derived.Test.YtgfmbddkefjchaaPx18
import Derived.Test.YtgfmbddkefjchaaVm
import Derived.Laws.Bits64
import Derived.Test.YtgfmbddkefjchaaCk
set_option linter.unusedVariables false
set_option linter.unusedSimpArgs false
namespace Go.Proofs.Ytgfmbddkefjchaa.Vref
open Go.RowKit Go.Proofs.Ytgfmbddkefjchaa.Vm Go.Proofs.Ytgfmbddkefjchaa.P Go.Proofs.YtgfmbddkefjchaaW.PrintWords
theorem u64w (n : Int) : IntKind.u64.wrap n = n % 18446744073709551616 := IntKind.wrap_u64 n
theorem w64 {x : Int} (h0 : -9223372036854775808 ≤ x) (h1 : x ≤ 9223372036854775807) : wrap64 x = x := by unfold wrap64; omega
def toB (xs : List Int) : List UInt8 := xs.map fun n => UInt8.ofNat n.toNat
theorem toB_snoc (xs : List Int) (n : Int) : toB (xs ++ [n]) = toB xs ++ [UInt8.ofNat n.toNat] := by simp [toB]
theorem strOfNums_snoc (xs : List Int) (n : Int) : strOfNums (xs ++ [n]) = bs (toB xs ++ [UInt8.ofNat n.toNat]) := by rw [strOfNums_bs]; simp [toB]
theorem put_l0 (f : Nat) : ∀ (u k : Nat) (acc : List Int), u < 2 * 128 ^ f → f ≤ 9 → f < k → acc.length + f < 100 →
    headgateref01_Put.l0 k (u : Int) acc = some (bs (toB acc ++ sev f u)) := by
  induction f with
  | zero =>
    intro u k acc hu _ hk hl
    obtain ⟨k, rfl⟩ : ∃ m, k = m + 1 := ⟨k - 1, by omega⟩
    simp only [headgateref01_Put.l0]
    rw [if_neg (by omega), if_pos (by omega), strOfNums_snoc]
    have : ((u : Int) % 256).toNat = u := by omega
    rw [this]
    rfl
  | succ f ih =>
    intro u k acc hu hf hk hl
    have hs : 2 * 128 ^ (f + 1) = 128 * (2 * 128 ^ f) := by rw [Nat.pow_succ]; omega
    have hmax : 2 * 128 ^ (f + 1) ≤ 18446744073709551616 := by
      have : 128 ^ (f + 1) ≤ 128 ^ 9 := Nat.pow_le_pow_right (by decide) hf
      omega
    obtain ⟨k, rfl⟩ : ∃ m, k = m + 1 := ⟨k - 1, by omega⟩
    simp only [headgateref01_Put.l0]
    unfold sev
    by_cases h : u < 128
    · rw [if_neg (by omega), if_pos (by omega), strOfNums_snoc, if_pos h]
      have : ((u : Int) % 256).toNat = u := by omega
      rw [this]
    · rw [if_pos (by omega), if_pos (by omega), if_neg h]
      have e1 : IntKind.u64.wrap (Int.tdiv (u : Int) 128) = ((u / 128 : Nat) : Int) := by
        rw [Int.tdiv_eq_ediv_of_nonneg (by omega), u64w]; omega
      have e2 : ((IntKind.u64.wrap (Int.tmod (u : Int) 128 + 128)) % 256).toNat = u % 128 + 128 := by
        rw [Int.tmod_eq_emod_of_nonneg (by omega), u64w]; omega
      rw [e1, ih (u / 128) k _ (by omega) (by omega) (by omega) (by simp; omega), toB_snoc, e2]
      simp
theorem put_f (n : Int) (hn : I64 n) (k : Nat) (hk : 12 ≤ k) : headgateref01_Put.f k n = some (bs (enc n)) := by
  have hz := zz_lt.2 hn
  obtain ⟨k, rfl⟩ : ∃ m, k = m + 1 := ⟨k - 1, by omega⟩
  unfold I64 at hn
  unfold headgateref01_Put.f
  split
  · rename_i h
    have e : IntKind.u64.wrap (IntKind.u64.wrap (IntKind.u64.wrap (wrap64 (-(wrap64 (n + 1)))) * 2) + 1) = ((zz n : Nat) : Int) := by
      unfold wrap64 zz; rw [if_pos h]; simp only [u64w]; omega
    rw [e]
    simp only [headgateref01_Put.j0]
    exact put_l0 9 _ _ _ hz (by omega) (by omega) (by simp)
  · rename_i h
    have e : IntKind.u64.wrap (IntKind.u64.wrap n * 2) = ((zz n : Nat) : Int) := by
      unfold zz; rw [if_neg h]; simp only [u64w]; omega
    rw [e]
    simp only [headgateref01_Put.j0]
    exact put_l0 9 _ _ _ hz (by omega) (by omega) (by simp)
/-- What bytes' sevens come to, the first byte the lowest. -/
def m64 (n : Nat) : Nat := n % 18446744073709551616
theorem m64_lt (n : Nat) : m64 n < 18446744073709551616 := Nat.mod_lt _ (by decide)
theorem m64_of {n : Nat} (h : n < 18446744073709551616) : m64 n = n := Nat.mod_eq_of_lt h
def val : List UInt8 → Nat
  | [] => 0
  | c :: t => c.toNat % 128 + 128 * val t
theorem val_sev (f : Nat) : ∀ u, u < 2 * 128 ^ f → val (sev f u) = u := by
  induction f with
  | zero => intro u hu; simp [sev, val, toNat_ofNat_lt (show u < 256 by omega)]; omega
  | succ f ih =>
    intro u hu
    have hs : 2 * 128 ^ (f + 1) = 128 * (2 * 128 ^ f) := by rw [Nat.pow_succ]; omega
    unfold sev
    split
    · rename_i h; simp [val, toNat_ofNat_lt (show u < 256 by omega)]; omega
    · simp only [val]; rw [ih _ (by omega), toNat_ofNat_lt (by omega)]; omega
/-- All bytes of a number but its last one are 128 or more; its last one is less. -/
theorem sev_tops (f : Nat) : ∀ u, u < 2 * 128 ^ f → (∀ i, i + 1 < (sev f u).length → 128 ≤ ((sev f u).getD i 0).toNat) ∧ ((sev f u).getD ((sev f u).length - 1) 0).toNat < 128 := by
  induction f with
  | zero => intro u hu; simp [sev, toNat_ofNat_lt (show u < 256 by omega)]; omega
  | succ f ih =>
    intro u hu
    have hs : 2 * 128 ^ (f + 1) = 128 * (2 * 128 ^ f) := by rw [Nat.pow_succ]; omega
    unfold sev
    split
    · rename_i h; simp [toNat_ofNat_lt (show u < 256 by omega)]; omega
    · obtain ⟨h1, h2⟩ := ih (u / 128) (by omega)
      have hl := (sev_len f (u / 128)).1
      constructor
      · intro i hi
        cases i with
        | zero => simp only [List.getD_cons_zero]; rw [toNat_ofNat_lt (by omega)]; omega
        | succ i => simp only [List.getD_cons_succ]; exact h1 i (by simpa using hi)
      · obtain ⟨m, hm⟩ : ∃ m, (sev f (u / 128)).length = m + 1 := ⟨_, (Nat.sub_add_cancel hl).symm⟩
        simp only [List.length_cons, Nat.add_sub_cancel]
        rw [hm]
        simp only [List.getD_cons_succ]
        rw [hm] at h2
        exact h2
theorem bt_bs (l : List UInt8) (i : Nat) (h : i < l.length) : bt (bs l) (i : Int) = ((l.getD i 0).toNat : Int) := by
  unfold bt
  rw [dif_pos (by simpa using h)]
  simp only [Int.toNat_natCast]
  rw [List.getD_eq_getElem?_getD, List.getElem?_eq_getElem h]
  rfl
/-- Where the scan stops: at the first byte below 128, at the end, or behind ten. -/
theorem take_l0 (l : List UInt8) (hl : l.length ≤ 9223372036854775800) (k : Nat) : ∀ (d i : Nat), i ≤ l.length → i ≤ 10 → d = 10 - i → (∀ j : Nat, j < i → 128 ≤ (l.getD j 0).toNat) → d < k →
    ∃ i' k' : Nat, k' + d + 1 ≥ k ∧ k' < k ∧ headgateref01_Take.l0 k (bs l) (i : Int) = headgateref01_Take.j1 k' (bs l) (i' : Int) ∧ i' ≤ l.length ∧ i' ≤ 10 ∧ (∀ j : Nat, j < i' → 128 ≤ (l.getD j 0).toNat) ∧ (i' = l.length ∨ i' = 10 ∨ (i' < l.length ∧ i' < 10 ∧ (l.getD i' 0).toNat < 128)) := by
  induction k with
  | zero => intro d i _ _ _ _ hk; omega
  | succ k ih =>
    intro d i h1 h2 hd hall hk
    simp only [headgateref01_Take.l0]
    by_cases hlt : i < l.length
    · rw [if_pos (by simp; omega)]
      by_cases h10 : i < 10
      · rw [if_pos (by omega), if_pos (by omega), bt_bs l i hlt]
        by_cases hb : 128 ≤ (l.getD i 0).toNat
        · rw [if_pos (by omega)]
          have e : wrap64 ((i : Int) + 1) = ((i + 1 : Nat) : Int) := by unfold wrap64; omega
          rw [e]
          obtain ⟨i', k', ha, hb', hc, hr⟩ := ih (d - 1) (i + 1) (by omega) (by omega) (by omega) (fun j hj => by
            rcases Nat.lt_or_ge j i with h | h
            · exact hall j h
            · obtain rfl : j = i := by omega
              exact hb) (by omega)
          exact ⟨i', k', by omega, by omega, hc, hr⟩
        · rw [if_neg (by omega)]
          exact ⟨i, k, by omega, by omega, rfl, h1, h2, hall, .inr (.inr ⟨hlt, h10, by omega⟩)⟩
      · rw [if_neg (by omega)]
        exact ⟨i, k, by omega, by omega, rfl, h1, h2, hall, .inr (.inl (by omega))⟩
    · rw [if_neg (by simp; omega)]
      exact ⟨i, k, by omega, by omega, rfl, h1, h2, hall, .inl (by omega)⟩
theorem val_drop (t : List UInt8) (m : Nat) (h : m < t.length) : val (t.drop m) = (t.getD m 0).toNat % 128 + 128 * val (t.drop (m + 1)) := by
  rw [List.drop_eq_getElem_cons h, val, List.getD_eq_getElem?_getD, List.getElem?_eq_getElem h]
  rfl
theorem l1_round (k : Nat) (x0 : ByteArray) (x5 x6 x7 : Int) (h0 : 0 ≤ x7) (h1 : x7 < (x0.size : Int)) : headgateref01_Take.l1 (k + 1) x0 x5 x6 x7 = headgateref01_Take.l1 k x0 x5 (IntKind.u64.wrap ((IntKind.u64.wrap (x6 * 128)) + (Int.tmod (IntKind.u64.wrap (bt x0 x7)) 128))) (wrap64 (x7 - 1)) := by
  rw [headgateref01_Take.l1, if_pos h0, if_pos h0, if_pos h1]
theorem take_l1 (l : List UInt8) (x5 : Nat) (hx : x5 < l.length) (h10 : x5 < 10) : ∀ (m k : Nat), m ≤ x5 + 1 → m + 20 ≤ k →
    ∃ k', 12 ≤ k' ∧ headgateref01_Take.l1 k (bs l) (x5 : Int) ((m64 (val ((l.take (x5 + 1)).drop m)) : Nat) : Int) ((m : Int) - 1) = headgateref01_Take.l1 (k' + 1) (bs l) (x5 : Int) ((m64 (val (l.take (x5 + 1))) : Nat) : Int) (-1) := by
  intro m
  induction m with
  | zero =>
    intro k _ hk
    obtain ⟨k, rfl⟩ : ∃ q, k = q + 1 := ⟨k - 1, by omega⟩
    refine ⟨k, by omega, ?_⟩
    rw [List.drop_zero, show ((0 : Nat) : Int) - 1 = -1 by omega]
  | succ m ih =>
    intro k hm hk
    obtain ⟨k, rfl⟩ : ∃ q, k = q + 1 := ⟨k - 1, by omega⟩
    obtain ⟨k', h1, h2⟩ := ih k (by omega) (by omega)
    refine ⟨k', h1, ?_⟩
    rw [← h2]
    have hlen : (l.take (x5 + 1)).length = x5 + 1 := by simp; omega
    have hg : (l.take (x5 + 1)).getD m 0 = l.getD m 0 := by
      simp only [List.getD_eq_getElem?_getD]
      rw [List.getElem?_take_of_lt (by omega)]
    have hv := val_drop (l.take (x5 + 1)) m (by omega)
    rw [hg] at hv
    have hbyte := (l.getD m 0).toNat_lt
    have e0 : ((m + 1 : Nat) : Int) - 1 = (m : Int) := by omega
    rw [e0]
    rw [l1_round k (bs l) _ _ (m : Int) (by omega) (by simp; omega), bt_bs l m (by omega)]
    have e1 : wrap64 ((m : Int) - 1) = (m : Int) - 1 := by unfold wrap64; omega
    have e2 : IntKind.u64.wrap ((IntKind.u64.wrap (((m64 (val ((l.take (x5 + 1)).drop (m + 1))) : Nat) : Int) * 128)) + (Int.tmod (IntKind.u64.wrap ((l.getD m 0).toNat : Int)) 128)) = ((m64 (val ((l.take (x5 + 1)).drop m)) : Nat) : Int) := by
      rw [hv]
      simp only [u64w, m64]
      rw [Int.tmod_eq_emod_of_nonneg (by omega)]
      omega
    rw [e1, e2]
theorem take_l1' (l : List UInt8) (x5 : Nat) (hx : x5 < l.length) (h10 : x5 < 10) (k : Nat) (hk : 40 ≤ k) :
    ∃ k', 12 ≤ k' ∧ headgateref01_Take.l1 k (bs l) (x5 : Int) 0 (x5 : Int) = headgateref01_Take.l1 (k' + 1) (bs l) (x5 : Int) ((m64 (val (l.take (x5 + 1))) : Nat) : Int) (-1) := by
  obtain ⟨kk, hkk, h⟩ := take_l1 l x5 hx h10 (x5 + 1) k (by omega) (by omega)
  refine ⟨kk, hkk, ?_⟩
  have hz : val ((l.take (x5 + 1)).drop (x5 + 1)) = 0 := by
    rw [List.drop_of_length_le (by rw [List.length_take]; omega)]
    rfl
  have hm : ((m64 0 : Nat) : Int) = 0 := rfl
  have e0 : ((x5 + 1 : Nat) : Int) - 1 = (x5 : Int) := by omega
  rw [hz, hm, e0] at h
  exact h
theorem take_fin (l : List UInt8) (hl : l.length ≤ 9223372036854775800) (i : Nat) (hlt : i < l.length) (h10 : i < 10) (hall : ∀ j : Nat, j < i → 128 ≤ (l.getD j 0).toNat) (hlast : (l.getD i 0).toNat < 128) (kk : Nat) (hkk : 12 ≤ kk) (u : Nat) (hu : m64 (val (l.take (i + 1))) = u) :
    ((headgateref01_Put.f kk (uz u)).bind fun t107 => (if 0 ≤ (wrap64 ((i : Int) + 1)) then (if (wrap64 ((i : Int) + 1)) ≤ ((bs l).size : Int) then (if t107.toList = ((bs l).extract 0 ((wrap64 ((i : Int) + 1)) : Int).toNat).toList then (some (uz u, (bs l).extract ((wrap64 ((i : Int) + 1)) : Int).toNat (bs l).size, (0 : Int))) else (some (0, (⟨#[]⟩ : ByteArray), 2))) else (none)) else (none))) = some (takeR (dec l)) := by
  have hult : u < 18446744073709551616 := by rw [← hu]; exact m64_lt _
  have e1 : wrap64 ((i : Int) + 1) = ((i + 1 : Nat) : Int) := by unfold wrap64; omega
  have hn : I64 (uz u) := zz_lt.1 (by rw [zz_uz]; exact hult)
  have hb : (i : Int) + 1 ≤ ((bs l).size : Int) := by rw [size_bs]; omega
  rw [put_f _ hn kk hkk, Option.bind_some, e1, if_pos (by omega), if_pos (by omega), Int.toNat_natCast, extract_bs, extract_bs, toList_bs, toList_bs, size_bs, List.drop_zero, Nat.sub_zero]
  by_cases hc : enc (uz u) = l.take (i + 1)
  · rw [if_pos hc]
    have : dec l = some (uz u, l.drop (i + 1)) := (dec_iff _ _ _).2 ⟨by rw [hc, List.take_append_drop], hn⟩
    rw [this, List.take_of_length_le (by simp)]
    rfl
  · rw [if_neg hc]
    cases hd : dec l with
    | none => rfl
    | some p =>
      exfalso
      obtain ⟨m, r⟩ := p
      obtain ⟨rfl, hm⟩ := (dec_iff l m r).1 hd
      have htop := sev_tops 9 (zz m) (zz_lt.2 hm)
      have hlen := enc_len m
      have hget : ∀ j, j < (enc m).length → (enc m ++ r).getD j 0 = (enc m).getD j 0 := fun j hj => by
        simp only [List.getD_eq_getElem?_getD]
        rw [List.getElem?_append_left hj]
      have hi : i + 1 = (enc m).length := by
        rcases Nat.lt_trichotomy (i + 1) (enc m).length with h | h | h
        · have h1 := htop.1 i h
          rw [hget i (by omega)] at hlast
          unfold enc at hlast
          omega
        · exact h
        · have h1 := hall ((enc m).length - 1) (by omega)
          rw [hget _ (by omega)] at h1
          unfold enc at h1
          omega
      have htk : (enc m ++ r).take (i + 1) = enc m := by rw [hi, List.take_left]
      rw [htk] at hu hc
      have hv : val (enc m) = zz m := val_sev 9 _ (zz_lt.2 hm)
      have hzl := zz_lt.2 hm
      rw [hv, m64_of hzl] at hu
      apply hc
      rw [← hu, uz_zz]
theorem take_f (l : List UInt8) (hl : l.length ≤ 9223372036854775800) (k : Nat) (hk : 80 ≤ k) : headgateref01_Take.f k (bs l) = some (takeR (dec l)) := by
  unfold headgateref01_Take.f
  obtain ⟨i, k', hk1, hk2, he, hi1, hi2, hall, hend⟩ := take_l0 l hl k 10 0 (by omega) (by omega) rfl (fun j hj => by omega) (by omega)
  rw [show (0 : Int) = ((0 : Nat) : Int) from rfl, he]
  have bad : (i = l.length ∨ i = 10) → dec l = none := by
    intro hb
    cases hd : dec l with
    | none => rfl
    | some p =>
      exfalso
      obtain ⟨n, r⟩ := p
      obtain ⟨rfl, hn⟩ := (dec_iff l n r).1 hd
      have ht := (sev_tops 9 (zz n) (zz_lt.2 hn)).2
      have hlen := enc_len n
      have h1 : (enc n).length - 1 < i := by
        rcases hb with hb | hb
        · rw [List.length_append] at hb; omega
        · omega
      have h2 := hall _ h1
      have h3 : (enc n ++ r).getD ((enc n).length - 1) 0 = (enc n).getD ((enc n).length - 1) 0 := by
        simp only [List.getD_eq_getElem?_getD]
        rw [List.getElem?_append_left (by omega)]
      rw [h3] at h2
      unfold enc at h2
      omega
  obtain ⟨k', rfl⟩ : ∃ q, k' = q + 1 := ⟨k' - 1, by omega⟩
  rw [headgateref01_Take.j1]
  obtain ⟨k', rfl⟩ : ∃ q, k' = q + 1 := ⟨k' - 1, by omega⟩
  by_cases hA : i = l.length
  · rw [if_pos (by rw [size_bs]; omega), headgateref01_Take.j2, if_pos rfl, bad (.inl hA)]
    rfl
  · rw [if_neg (by rw [size_bs]; omega), headgateref01_Take.j2]
    by_cases hB : i = 10
    · rw [if_pos (beq_iff_eq.mpr (by omega)), bad (.inr hB)]
      rfl
    · rw [if_neg (by rw [beq_iff_eq]; omega)]
      obtain ⟨hlt, h10, hlast⟩ : i < l.length ∧ i < 10 ∧ (l.getD i 0).toNat < 128 := by
        rcases hend with h | h | h
        · exact absurd h hA
        · exact absurd h hB
        · exact h
      obtain ⟨kk, hkk, hl1⟩ := take_l1' l i hlt h10 k' (by omega)
      rw [hl1]
      have hult := m64_lt (val (l.take (i + 1)))
      generalize hu : m64 (val (l.take (i + 1))) = u at hult
      have hfin := take_fin l hl i hlt h10 hall hlast kk hkk u hu
      rw [headgateref01_Take.l1, if_neg (by omega)]
      have hq : Int.tdiv (u : Int) 2 = ((u / 2 : Nat) : Int) := by rw [Int.tdiv_eq_ediv_of_nonneg (by omega)]; omega
      have hr : Int.tmod (u : Int) 2 = ((u % 2 : Nat) : Int) := by rw [Int.tmod_eq_emod_of_nonneg (by omega)]; omega
      rw [hq, hr]
      by_cases hodd : u % 2 = 1
      · rw [if_pos (by omega)]
        have e : wrap64 (wrap64 (-(wrap64 (IntKind.u64.wrap ((u / 2 : Nat) : Int)))) - 1) = uz u := by
          have h1 : IntKind.u64.wrap ((u / 2 : Nat) : Int) = ((u / 2 : Nat) : Int) := by rw [u64w]; omega
          rw [h1, w64 (x := ((u / 2 : Nat) : Int)) (by omega) (by omega), w64 (x := -((u / 2 : Nat) : Int)) (by omega) (by omega), w64 (by omega) (by omega)]
          unfold uz
          rw [if_pos hodd]
        rw [e]
        exact hfin
      · rw [if_neg (by omega)]
        have e : wrap64 (IntKind.u64.wrap ((u / 2 : Nat) : Int)) = uz u := by
          have h1 : IntKind.u64.wrap ((u / 2 : Nat) : Int) = ((u / 2 : Nat) : Int) := by rw [u64w]; omega
          rw [h1, w64 (x := ((u / 2 : Nat) : Int)) (by omega) (by omega)]
          unfold uz
          rw [if_neg hodd]
        rw [e]
        exact hfin
end Go.Proofs.Ytgfmbddkefjchaa.Vref
set_option linter.unusedVariables false
set_option linter.unusedSimpArgs false
namespace Go.Proofs.Ytgfmbddkefjchaa.Vp
open Go.RowKit Go.Proofs.Ytgfmbddkefjchaa.Vm Go.Proofs.Ytgfmbddkefjchaa.Vref Go.Proofs.Ytgfmbddkefjchaa.P Go.Proofs.YtgfmbddkefjchaaW.PrintWords
theorem put_eq {n : Int} (h : I64 n) : varint_Put.f n = some (bs (enc n)) := if_pos h
theorem take_eq (l : List UInt8) (h : l.length ≤ 9223372036854775807) : varint_Take.f (bs l) = some (takeR (dec l)) := by
  unfold varint_Take.f
  rw [size_bs, if_pos h, data_bs]
theorem len_i64 {l : List UInt8} (h : l.length ≤ 9223372036854775807) : I64 (l.length : Int) := by unfold I64; omega
theorem takeR_1 (n : Int) (r : List UInt8) : (takeR (some (n, r))).1 = n := rfl
theorem takeR_2 (n : Int) (r : List UInt8) : (takeR (some (n, r))).2.1 = bs r := rfl
theorem takeR_3 (n : Int) (r : List UInt8) : (takeR (some (n, r))).2.2 = 0 := rfl
theorem takeR_n3 : (takeR none).2.2 = 2 := rfl
theorem takeR_n2 : (takeR none).2.1 = bs [] := rfl
theorem takeR_n1 : (takeR none).1 = 0 := rfl
/-- A text of so many bytes at most, with which bytes begin. -/
def ttext (l : List UInt8) (m : Int) : Option (List UInt8 × List UInt8) :=
  (dec l).bind fun p => if p.1 < 0 ∨ p.1 > m ∨ p.1 > (p.2.length : Int) then none else some (p.2.take p.1.toNat, p.2.drop p.1.toNat)
def textR : Option (List UInt8 × List UInt8) → ByteArray × ByteArray × Int
  | some (a, b) => (bs a, bs b, 0)
  | none => (bs [], bs [], 2)
theorem text_core (l : List UInt8) (m : Int) : (if (takeR (dec l)).2.2 = 0 then (if (takeR (dec l)).1 < 0 then (some ((⟨#[]⟩ : ByteArray), (⟨#[]⟩ : ByteArray), (2 : Int))) else (if (takeR (dec l)).1 > m then (some ((⟨#[]⟩ : ByteArray), (⟨#[]⟩ : ByteArray), 2)) else (if (takeR (dec l)).1 > ((takeR (dec l)).2.1.size : Int) then (some ((⟨#[]⟩ : ByteArray), (⟨#[]⟩ : ByteArray), 2)) else (if 0 ≤ (takeR (dec l)).1 then (if (takeR (dec l)).1 ≤ ((takeR (dec l)).2.1.size : Int) then (some ((takeR (dec l)).2.1.extract 0 ((takeR (dec l)).1 : Int).toNat, (takeR (dec l)).2.1.extract ((takeR (dec l)).1 : Int).toNat (takeR (dec l)).2.1.size, 0)) else (none)) else (none))))) else (some ((⟨#[]⟩ : ByteArray), (⟨#[]⟩ : ByteArray), 2))) = some (textR (ttext l m)) := by
  unfold ttext
  cases dec l with
  | none => rfl
  | some p =>
    obtain ⟨n, r⟩ := p
    rw [takeR_1, takeR_2, takeR_3, Option.bind_some, size_bs, if_pos rfl]
    show _ = some (textR (if n < 0 ∨ n > m ∨ n > (r.length : Int) then none else some (r.take n.toNat, r.drop n.toNat)))
    by_cases h1 : n < 0
    · rw [if_pos h1, if_pos (.inl h1)]; rfl
    · rw [if_neg h1]
      by_cases h2 : n > m
      · rw [if_pos h2, if_pos (.inr (.inl h2))]; rfl
      · rw [if_neg h2]
        by_cases h3 : n > (r.length : Int)
        · rw [if_pos h3, if_pos (.inr (.inr h3))]; rfl
        · rw [if_neg h3, if_pos (by omega), if_pos (by omega), if_neg (by omega), extract_bs, extract_bs, List.drop_zero, Nat.sub_zero, List.take_of_length_le (l := r.drop n.toNat) (by simp)]
          rfl
theorem takeText_eq (l : List UInt8) (h : l.length ≤ 9223372036854775800) (m : Int) : varint_TakeText.f (bs l) m = some (textR (ttext l m)) := by
  unfold varint_TakeText.f
  rw [take_eq l (by omega), Option.bind_some]
  exact text_core l m
theorem rtakeText_eq (l : List UInt8) (h : l.length ≤ 9223372036854775800) (m : Int) (k : Nat) (hk : 80 ≤ k) : headgateref01_TakeText.f k (bs l) m = some (textR (ttext l m)) := by
  unfold headgateref01_TakeText.f
  rw [take_f l h k hk, Option.bind_some]
  exact text_core l m
def ptext (l : List UInt8) : List UInt8 := enc (l.length : Int) ++ l
theorem ptext_len (l : List UInt8) : (ptext l).length ≤ l.length + 10 := by have := (enc_len (l.length : Int)).2; unfold ptext; rw [List.length_append]; omega
theorem putText_eq (l : List UInt8) (h : l.length ≤ 9223372036854775000) : varint_PutText.f (bs l) = some (bs (ptext l)) := by
  have := (enc_len (l.length : Int)).2
  unfold varint_PutText.f ptext
  rw [size_bs, put_eq (len_i64 (by omega)), Option.bind_some, if_pos (by rw [size_bs]; omega), append_bs]
theorem rtext_eq (l : List UInt8) (h : l.length ≤ 9223372036854775000) (k : Nat) (hk : 12 ≤ k) : headgateref01_Text.f k (bs l) = some (bs (ptext l)) := by
  have := (enc_len (l.length : Int)).2
  unfold headgateref01_Text.f ptext
  rw [size_bs, put_f _ (len_i64 (by omega)) k hk, Option.bind_some, if_pos (by rw [size_bs]; omega), append_bs]
theorem ttext_ptext (l r : List UInt8) (h : l.length ≤ 9223372036854775000) (m : Int) (hm : (l.length : Int) ≤ m) : ttext (ptext l ++ r) m = some (l, r) := by
  unfold ttext ptext
  rw [List.append_assoc, dec_enc (len_i64 (by omega)), Option.bind_some]
  simp only
  rw [if_neg (by rw [List.length_append]; omega), Int.toNat_natCast, List.take_left, List.drop_left]
theorem ttext_short (l r : List UInt8) (h : l.length ≤ 9223372036854775000) (m : Int) (hm : m < (l.length : Int)) : ttext (ptext l ++ r) m = none := by
  unfold ttext ptext
  rw [List.append_assoc, dec_enc (len_i64 (by omega)), Option.bind_some]
  simp only
  rw [if_pos (by omega)]
/-- What is a text's with which bytes begin: they are its bytes, and what is behind it. -/
theorem ttext_some {l a b : List UInt8} {m : Int} (h : ttext l m = some (a, b)) : l = ptext a ++ b ∧ (a.length : Int) ≤ m := by
  unfold ttext at h
  cases hd : dec l with
  | none => rw [hd] at h; cases h
  | some p =>
    obtain ⟨n, r⟩ := p
    rw [hd, Option.bind_some] at h
    simp only at h
    split at h
    · cases h
    · rename_i hc
      simp only [Option.some.injEq, Prod.mk.injEq] at h
      obtain ⟨rfl, rfl⟩ := h
      obtain ⟨rfl, hn⟩ := (dec_iff _ _ _).1 hd
      have hl : ((r.take n.toNat).length : Int) = n := by rw [List.length_take]; omega
      unfold ptext
      rw [hl, List.append_assoc, List.take_append_drop]
      exact ⟨rfl, by omega⟩
/-- So many numbers, with which bytes begin. -/
def decN : Nat → List UInt8 → Option (List Int × List UInt8)
  | 0, l => some ([], l)
  | n + 1, l => (dec l).bind fun p => (decN n p.2).map fun q => (p.1 :: q.1, q.2)
def allR : Option (List Int × List UInt8) → List Int × ByteArray × Int
  | some (a, b) => (a, bs b, 0)
  | none => ([], bs [], 2)
/-- What TakeAll tells. -/
def takeAllR (l : List UInt8) (n : Int) : List Int × ByteArray × Int := if n < 0 ∨ n > 64 then ([], bs [], 1) else allR (decN n.toNat l)
theorem takeAll_l0 (d : Nat) : ∀ (l : List UInt8) (acc : List Int) (n i : Int) (k : Nat), l.length ≤ 9223372036854775800 → 0 ≤ i → i ≤ n → n ≤ 64 → n - i = d → d < k → acc.length ≤ 64 - d →
    varint_TakeAll.l0 k (bs l) acc n i = some (allR ((decN d l).map fun q => (acc ++ q.1, q.2))) := by
  induction d with
  | zero =>
    intro l acc n i k hl h0 h1 h64 hd hk ha
    obtain ⟨k, rfl⟩ : ∃ m, k = m + 1 := ⟨k - 1, by omega⟩
    rw [varint_TakeAll.l0, if_neg (by omega)]
    simp [decN, allR]
  | succ d ih =>
    intro l acc n i k hl h0 h1 h64 hd hk ha
    obtain ⟨k, rfl⟩ : ∃ m, k = m + 1 := ⟨k - 1, by omega⟩
    rw [varint_TakeAll.l0, if_pos (by omega), take_eq l (by omega), Option.bind_some]
    cases hdc : dec l with
    | none =>
      rw [takeR_n3, if_neg (by decide)]
      simp only [decN, hdc]
      rfl
    | some p =>
      obtain ⟨x, r⟩ := p
      have hr := (dec_iff _ _ _).1 hdc
      have hrl : r.length ≤ l.length := by rw [hr.1, List.length_append]; omega
      rw [takeR_1, takeR_2, takeR_3, if_pos rfl, if_pos (by omega), w64 (by omega) (by omega), ih r (acc ++ [x]) n (i + 1) k (by omega) (by omega) (by omega) h64 (by omega) (by omega) (by rw [List.length_append, List.length_singleton]; omega)]
      simp only [decN, hdc, Option.bind_some, Option.map_map]
      congr 2
      cases decN d r <;> simp
theorem takeAll_eq (l : List UInt8) (hl : l.length ≤ 9223372036854775800) (n : Int) (k : Nat) (hk : 200 ≤ k) : varint_TakeAll.f k (bs l) n = some (takeAllR l n) := by
  obtain ⟨k, rfl⟩ : ∃ m, k = m + 1 := ⟨k - 1, by omega⟩
  unfold varint_TakeAll.f takeAllR
  rw [varint_TakeAll.j0, if_pos rfl, varint_TakeAll.j0]
  by_cases h0 : n < 0
  · rw [if_pos h0, if_pos (.inl h0)]; rfl
  · rw [if_neg h0]
    by_cases h1 : n > 64
    · rw [if_pos (decide_eq_true h1), if_pos (.inr h1)]; rfl
    · rw [if_neg (by rw [decide_eq_true_eq]; exact h1), if_neg (by omega), takeAll_l0 n.toNat l [] n 0 k hl (by omega) (by omega) (by omega) (by omega) (by omega) (by simp)]
      congr 2
      cases decN n.toNat l <;> simp
theorem putAll_eq (l : List Int) (hl : l.length ≤ 1099511627776) (h : ∀ x ∈ l, I64 x) : varint_PutAll.f l = some (bs (l.flatMap enc)) := if_pos ⟨hl, h⟩
end Go.Proofs.Ytgfmbddkefjchaa.Vp
set_option linter.unusedVariables false
set_option linter.unusedSimpArgs false
namespace Go.Proofs.Ytgfmbddkefjchaa.Fr
open Go.Proofs.Ytgfmbddkefjchaa.Vm Go.Proofs.Ytgfmbddkefjchaa.Vp Go.Proofs.Ytgfmbddkefjchaa.Ck
/-- A text with its check sum behind it. -/
def sealT (l : List UInt8) : List UInt8 := l ++ b4 (sum l)
theorem b4_len (c : Nat) : (b4 c).length = 4 := rfl
theorem sealT_len (l : List UInt8) : (sealT l).length = l.length + 4 := by unfold sealT; rw [List.length_append, b4_len]
structure E where
  base : Int
  n : Int
  text : List UInt8
def may (x : E) : Prop := 0 ≤ x.base ∧ x.base ≤ 1099511627776 ∧ 1 ≤ x.n ∧ x.n ≤ 64 ∧ x.text.length ≤ 65536
instance (x : E) : Decidable (may x) := by unfold may; infer_instance
def body (x : E) : List UInt8 := enc x.base ++ enc x.n ++ x.text
/-- The frame. -/
def fr (x : E) : List UInt8 := sealT (ptext (body x))
theorem body_len (x : E) : 2 ≤ (body x).length ∧ (body x).length ≤ x.text.length + 20 := by
  have := enc_len x.base; have := enc_len x.n
  unfold body
  rw [List.length_append, List.length_append]; omega
theorem ptext_len (l : List UInt8) : l.length + 1 ≤ (ptext l).length ∧ (ptext l).length ≤ l.length + 10 := by
  have := enc_len (l.length : Int)
  unfold ptext
  rw [List.length_append]; omega
theorem fr_len (x : E) : 7 ≤ (fr x).length ∧ (fr x).length ≤ x.text.length + 34 := by
  have := body_len x; have := ptext_len (body x)
  unfold fr
  rw [sealT_len]; omega
/-- What stands behind the text: is it its check sum? -/
def sealed (l : List UInt8) : Bool := decide (4 ≤ l.length) && decide (b4 (sum (l.take (l.length - 4))) = l.drop (l.length - 4))
theorem sealed_sealT (l : List UInt8) : sealed (sealT l) = true := by
  unfold sealed
  rw [sealT_len, Nat.add_sub_cancel, Bool.and_eq_true, decide_eq_true_eq, decide_eq_true_eq]
  unfold sealT
  rw [List.take_left, List.drop_left]
  exact ⟨by omega, rfl⟩
theorem of_sealed {l : List UInt8} (h : sealed l = true) : 4 ≤ l.length ∧ l = sealT (l.take (l.length - 4)) := by
  unfold sealed at h
  rw [Bool.and_eq_true, decide_eq_true_eq, decide_eq_true_eq] at h
  refine ⟨h.1, ?_⟩
  unfold sealT
  rw [h.2, List.take_append_drop]
/-- What a frame's body tells. -/
def inside (b : List UInt8) : Option E := (dec b).bind fun p => (dec p.2).bind fun q => if may ⟨p.1, q.1, q.2⟩ then some ⟨p.1, q.1, q.2⟩ else none
/-- The entry whose frame stands ahead, and what is behind it. -/
def takeF (s : List UInt8) : Option (E × List UInt8) := (ttext s 131072).bind fun p => if p.2.length < 4 then none else if sealed (s.take (s.length - p.2.length + 4)) = true then (inside p.1).map fun x => (x, p.2.drop 4) else none
theorem inside_some {b : List UInt8} {x : E} (h : inside b = some x) : b = body x ∧ may x := by
  unfold inside at h
  obtain ⟨p, hp, h⟩ := Option.bind_eq_some_iff.1 h
  obtain ⟨q, hq, h⟩ := Option.bind_eq_some_iff.1 h
  split at h
  · rename_i hm
    injection h with h
    subst h
    obtain ⟨h1, -⟩ := (dec_iff b p.1 p.2).1 hp
    obtain ⟨h2, -⟩ := (dec_iff p.2 q.1 q.2).1 hq
    refine ⟨?_, hm⟩
    unfold body
    rw [List.append_assoc, ← h2, ← h1]
  · cases h
theorem i64_of_may {x : E} (h : may x) : I64 x.base ∧ I64 x.n := by unfold may at h; unfold I64; omega
theorem inside_body {x : E} (h : may x) : inside (body x) = some x := by
  obtain ⟨h1, h2⟩ := i64_of_may h
  unfold inside body
  rw [List.append_assoc, dec_enc h1, Option.bind_some]
  dsimp only
  rw [dec_enc h2, Option.bind_some, if_pos h]
theorem take_of_app {a b s : List UInt8} (h : s = a ++ b) : s.take (s.length - b.length + 4) = a ++ b.take 4 := by
  subst h
  rw [List.length_append, Nat.add_sub_cancel, List.take_append, List.take_of_length_le (by omega), Nat.add_sub_cancel_left]
theorem takeF_iff (s : List UInt8) (hs : s.length ≤ 9223372036854775000) (x : E) (r : List UInt8) : takeF s = some (x, r) ↔ s = fr x ++ r ∧ may x := by
  constructor
  · intro h
    unfold takeF at h
    obtain ⟨⟨b, t⟩, hp, h⟩ := Option.bind_eq_some_iff.1 h
    obtain ⟨h1, h2⟩ := ttext_some hp
    dsimp only at h
    split at h
    · cases h
    rename_i h4
    split at h
    case isFalse => cases h
    rename_i hse
    obtain ⟨y, hy, he⟩ := Option.map_eq_some_iff.1 h
    injection he with e1 e2
    subst e1
    obtain ⟨hb, hm⟩ := inside_some hy
    obtain ⟨_, h5⟩ := of_sealed hse
    rw [take_of_app h1] at h5
    have hl : (ptext b ++ t.take 4).length - 4 = (ptext b).length := by rw [List.length_append, List.length_take]; omega
    rw [hl, List.take_left, hb] at h5
    refine ⟨?_, hm⟩
    unfold fr
    rw [← h5, h1, ← e2, hb, List.append_assoc, List.take_append_drop]
  · rintro ⟨rfl, hm⟩
    have hb := body_len x
    have hm2 := hm
    unfold may at hm2
    unfold takeF
    have e : fr x ++ r = ptext (body x) ++ (b4 (sum (ptext (body x))) ++ r) := by unfold fr sealT; rw [List.append_assoc]
    have h4 : (b4 (sum (ptext (body x))) ++ r).take 4 = b4 (sum (ptext (body x))) := rfl
    rw [e, ttext_ptext _ _ (by omega) _ (by omega), Option.bind_some]
    dsimp only
    rw [if_neg (by rw [List.length_append, b4_len]; omega), take_of_app rfl, h4]
    have := sealed_sealT (ptext (body x))
    unfold sealT at this
    rw [if_pos this, inside_body hm]
    rfl
theorem takeF_fr {x : E} (h : may x) (r : List UInt8) (hr : r.length ≤ 9000000000000000000) : takeF (fr x ++ r) = some (x, r) := by
  refine (takeF_iff _ ?_ _ _).2 ⟨rfl, h⟩
  have := fr_len x
  unfold may at h
  rw [List.length_append]; omega
theorem takeF_len {s : List UInt8} (hs : s.length ≤ 9223372036854775000) {x : E} {r : List UInt8} (h : takeF s = some (x, r)) : r.length + 7 ≤ s.length := by
  obtain ⟨rfl, _⟩ := (takeF_iff s hs x r).1 h
  have := fr_len x
  rw [List.length_append]; omega
/-- As far as the frames go; with how many bytes each has. -/
def rowF : Nat → List UInt8 → List (E × Nat)
  | 0, _ => []
  | k + 1, s => match takeF s with
    | some (x, r) => (x, s.length - r.length) :: rowF k r
    | none => []
def sumN (l : List (E × Nat)) : Nat := (l.map (·.2)).sum
theorem sumN_cons (p : E × Nat) (l : List (E × Nat)) : sumN (p :: l) = p.2 + sumN l := by simp [sumN]
theorem rowF_more : ∀ (k j : Nat) (s : List UInt8), s.length ≤ 9223372036854775000 → s.length < k → s.length < j → rowF k s = rowF j s
  | 0, j, s, _, h, _ => by omega
  | k + 1, 0, s, _, _, h => by omega
  | k + 1, j + 1, s, hs, h1, h2 => by
    unfold rowF
    cases h : takeF s with
    | none => rfl
    | some p =>
      obtain ⟨x, r⟩ := p
      have := takeF_len hs h
      dsimp only
      rw [rowF_more k j r (by omega) (by omega) (by omega)]
theorem rowF_sum : ∀ (k : Nat) (s : List UInt8), s.length ≤ 9223372036854775000 → s.length < k → sumN (rowF k s) ≤ s.length ∧ takeF (s.drop (sumN (rowF k s))) = none
  | 0, s, _, h => by omega
  | k + 1, s, hs, h1 => by
    unfold rowF
    cases h : takeF s with
    | none => exact ⟨by simp [sumN], by simpa [sumN] using h⟩
    | some p =>
      obtain ⟨x, r⟩ := p
      have hl := takeF_len hs h
      obtain ⟨e, _⟩ := (takeF_iff s hs x r).1 h
      obtain ⟨h2, h3⟩ := rowF_sum k r (by omega) (by omega)
      dsimp only
      rw [sumN_cons]
      dsimp only
      refine ⟨by omega, ?_⟩
      have : s.drop (s.length - r.length) = r := by
        rw [e, List.length_append, Nat.add_sub_cancel, List.drop_left]
      rw [← List.drop_drop, this]
      exact h3
end Go.Proofs.Ytgfmbddkefjchaa.Fr
set_option linter.unusedVariables false
set_option linter.unusedSimpArgs false
namespace Go.Proofs.Ytgfmbddkefjchaa.Fp
open Go.RowKit Go.Proofs.Ytgfmbddkefjchaa.Vm Go.Proofs.Ytgfmbddkefjchaa.Vref Go.Proofs.Ytgfmbddkefjchaa.Vp Go.Proofs.Ytgfmbddkefjchaa.Ck Go.Proofs.Ytgfmbddkefjchaa.Fr Go.Proofs.Ytgfmbddkefjchaa.P Go.Proofs.YtgfmbddkefjchaaW.PrintWords
theorem u32w (n : Int) : IntKind.u32.wrap n = n % 4294967296 := IntKind.wrap_u32 n
theorem of32 (n : Nat) (h : n < 4294967296) : (BitVec.ofInt IntKind.u32.bits (n : Int)).toNat = n := by
  rw [BitVec.toNat_ofInt]
  show (((n : Int)) % 4294967296).toNat = n
  omega
theorem xor32 (a b : Nat) (ha : a < 4294967296) (hb : b < 4294967296) : Go.bits .xor .u32 (a : Int) (b : Int) = ((a ^^^ b : Nat) : Int) := by
  have h1 : a ^^^ b < 2 ^ 32 := Nat.xor_lt_two_pow (by omega) (by omega)
  unfold Go.bits
  have h3 : ((BitVec.ofInt IntKind.u32.bits (a : Int)) ^^^ (BitVec.ofInt IntKind.u32.bits (b : Int))).toNat = a ^^^ b := by
    rw [BitVec.toNat_xor, of32 a ha, of32 b hb]
  show IntKind.u32.wrap ((((BitVec.ofInt IntKind.u32.bits (a : Int)) ^^^ (BitVec.ofInt IntKind.u32.bits (b : Int))).toNat : Nat) : Int) = _
  rw [h3, u32w]
  omega
theorem and32 (a : Nat) (ha : a < 4294967296) : Go.bits .and .u32 (a : Int) 1 = ((a % 2 : Nat) : Int) := by
  unfold Go.bits
  have h2 := of32 1 (by omega)
  have h3 : ((BitVec.ofInt IntKind.u32.bits (a : Int)) &&& (BitVec.ofInt IntKind.u32.bits (1 : Int))).toNat = a % 2 := by
    rw [BitVec.toNat_and, of32 a ha, show ((1 : Int)) = ((1 : Nat) : Int) from rfl, h2]
    exact Nat.and_two_pow_sub_one_eq_mod (n := 1) a
  show IntKind.u32.wrap ((((BitVec.ofInt IntKind.u32.bits (a : Int)) &&& (BitVec.ofInt IntKind.u32.bits (1 : Int))).toNat : Nat) : Int) = _
  rw [h3, u32w]
  omega
theorem st_split (x : Nat) : st x = if x % 2 = 1 then (x / 2) ^^^ 2197175160 else x / 2 := by
  unfold st
  rw [Nat.shiftRight_eq_div_pow, show 2 ^ 1 = 2 from rfl]
  split
  · rfl
  · rw [Nat.xor_zero]
theorem step_eq (x : Nat) (h : x < 4294967296) : crc_register_step.f (x : Int) = some ((st x : Nat) : Int) := by
  unfold crc_register_step.f
  rw [and32 x h, st_split]
  have e : (x : Int) / 2 = ((x / 2 : Nat) : Int) := by omega
  by_cases c : x % 2 = 1
  · rw [if_pos (by omega), if_pos c, e, show (2197175160 : Int) = ((2197175160 : Nat) : Int) from rfl, xor32 _ _ (by omega) (by omega)]
  · rw [if_neg (by omega), if_neg c, e]
theorem more_l1 (l : List UInt8) (n i : Int) (d : Nat) : ∀ (r j k : Nat), r < 4294967296 → 8 - j = d → j ≤ 8 → crc_More.l1 (k + d + 1) (bs l) (r : Int) n i (j : Int) = crc_More.l0 k (bs l) ((sts d r : Nat) : Int) n (wrap64 (i + 1)) := by
  induction d with
  | zero =>
    intro r j k hr hd hj
    rw [Nat.add_zero, crc_More.l1, if_neg (by omega)]
    rfl
  | succ d ih =>
    intro r j k hr hd hj
    rw [show k + (d + 1) + 1 = (k + d + 1) + 1 by omega, crc_More.l1, if_pos (by omega), step_eq r hr, Option.bind_some, w64 (by omega) (by omega), show (j : Int) + 1 = ((j + 1 : Nat) : Int) by omega, ih (st r) (j + 1) k (st_lt hr) (by omega) (by omega)]
    rfl
theorem byte_of (l : List UInt8) (i : Nat) (h : i < l.length) : bt (bs l) (i : Int) = (l[i].toNat : Int) := by
  rw [bt_bs l i h, List.getD_eq_getElem?_getD, List.getElem?_eq_getElem h]; rfl
theorem more_l0 (l : List UInt8) (hl : l.length ≤ 9000000000000000000) (d : Nat) : ∀ (r i k : Nat), r < 4294967296 → l.length - i = d → i ≤ l.length → 10 * d + 1 ≤ k → crc_More.l0 k (bs l) (r : Int) (l.length : Int) (i : Int) = some ((4294967295 - reg r (l.drop i) : Nat) : Int) := by
  induction d with
  | zero =>
    intro r i k hr hd hi hk
    obtain ⟨k, rfl⟩ : ∃ m, k = m + 1 := ⟨k - 1, by omega⟩
    rw [crc_More.l0, if_neg (by omega), List.drop_eq_nil_of_le (by omega)]
    show some (Go.bits .xor .u32 ((4294967295 : Nat) : Int) (r : Int)) = _
    rw [xor32 _ _ (by omega) hr, Nat.xor_comm, xor_ones hr]
    rfl
  | succ d ih =>
    intro r i k hr hd hi hk
    obtain ⟨k, rfl⟩ : ∃ m, k = (m + 8 + 1) + 1 := ⟨k - 10, by omega⟩
    have hlt : i < l.length := by omega
    have hc := l[i].toNat_lt
    rw [crc_More.l0, if_pos (by omega), if_pos (by omega), if_pos (by rw [size_bs]; omega), byte_of l i hlt, show ((l[i].toNat : Int) % 4294967296) = ((l[i].toNat : Nat) : Int) by omega, xor32 _ _ hr (by omega)]
    have hx : r ^^^ l[i].toNat < 4294967296 := Nat.xor_lt_two_pow (n := 32) hr (by omega)
    have := more_l1 l (l.length : Int) (i : Int) 8 (r ^^^ l[i].toNat) 0 k hx (by omega) (by omega)
    rw [show ((0 : Nat) : Int) = 0 from rfl] at this
    rw [this, w64 (by omega) (by omega), show (i : Int) + 1 = ((i + 1 : Nat) : Int) by omega, ih _ (i + 1) k (sts_lt 8 hx) (by omega) (by omega) (by omega), List.drop_eq_getElem_cons hlt]
    rfl
theorem sum_eq (l : List UInt8) (hl : l.length ≤ 9000000000000000000) (k : Nat) (hk : 10 * l.length + 1 ≤ k) : crc_Sum.f k (bs l) = some ((sum l : Nat) : Int) := by
  have h := more_l0 l hl l.length 4294967295 0 k (by omega) (by omega) (by omega) hk
  unfold crc_Sum.f crc_More.f
  rw [show Go.bits .xor .u32 4294967295 0 = ((4294967295 : Nat) : Int) from (xor32 4294967295 0 (by omega) (by omega)), size_bs]
  rw [show ((0 : Nat) : Int) = 0 from rfl] at h
  rw [h]
  rfl
theorem b4_strs (c : Nat) (h : c < 4294967296) : strOfNums ([(c : Int) % 256, ((c : Int) / 256) % 256, ((c : Int) / 65536) % 256, ((c : Int) / 16777216) % 256] : List Int) = bs (b4 c) := by
  rw [strOfNums_bs]
  simp only [List.map_cons, List.map_nil, b4]
  rw [show ((c : Int) % 256).toNat = c % 256 by omega, show ((c : Int) / 256 % 256).toNat = c / 256 % 256 by omega, show ((c : Int) / 65536 % 256).toNat = c / 65536 % 256 by omega, show ((c : Int) / 16777216 % 256).toNat = c / 16777216 % 256 by omega]
theorem seal_eq (l : List UInt8) (hl : l.length ≤ 9000000000000000000) (k : Nat) (hk : 10 * l.length + 1 ≤ k) : crc_Seal.f k (bs l) = some (bs (sealT l)) := by
  unfold crc_Seal.f
  rw [sum_eq l hl k hk, Option.bind_some, Option.bind_some, b4_strs _ (sum_lt l), if_pos (by rw [size_bs, size_bs, b4_len]; omega), append_bs]
  rfl
theorem unseal_eq (l : List UInt8) (hl : l.length ≤ 9000000000000000000) (k : Nat) (hk : 10 * l.length + 1 ≤ k) : crc_Unseal.f k (bs l) = some (if sealed l = true then (bs (l.take (l.length - 4)), 0) else (bs [], 2)) := by
  unfold crc_Unseal.f
  rw [size_bs, w64 (by omega) (by omega)]
  by_cases c : 4 ≤ l.length
  · rw [if_pos (by omega), if_pos (by omega), if_pos (by omega), extract_bs, List.drop_zero, show ((l.length : Int) - 4).toNat - 0 = l.length - 4 by omega, seal_eq _ (by rw [List.length_take]; omega) k (by rw [List.length_take]; omega), Option.bind_some, toList_bs, toList_bs]
    by_cases h : sealed l = true
    · rw [if_pos h, if_pos (of_sealed h).2.symm]
    · rw [if_neg h, if_neg ?_]
      · rfl
      · intro e
        apply h
        rw [← e]
        exact sealed_sealT _
  · rw [if_neg (by omega), if_neg ?_]
    · rfl
    · intro h
      exact c (of_sealed h).1
/-- The reference's. -/
theorem rmore_l1 (l : List UInt8) (i : Int) (d : Nat) : ∀ (r j k : Nat), r < 4294967296 → 8 - j = d → j ≤ 8 → headgateref02_More.l1 (k + d + 1) (bs l) (r : Int) i (j : Int) = headgateref02_More.l0 k (bs l) ((sts d r : Nat) : Int) (wrap64 (i + 1)) := by
  induction d with
  | zero =>
    intro r j k hr hd hj
    rw [Nat.add_zero, headgateref02_More.l1, if_neg (by omega)]
    rfl
  | succ d ih =>
    intro r j k hr hd hj
    have e1 : Int.tmod (r : Int) 2 = ((r % 2 : Nat) : Int) := by rw [Int.tmod_eq_emod_of_nonneg (by omega)]; omega
    have e2 : (Int.tdiv (r : Int) 2) % 4294967296 = ((r / 2 : Nat) : Int) := by rw [Int.tdiv_eq_ediv_of_nonneg (by omega)]; omega
    have hs := st_split r
    have := ih (st r) (j + 1) k (st_lt hr) (by omega) (by omega)
    rw [show k + (d + 1) + 1 = (k + d + 1) + 1 by omega, headgateref02_More.l1, if_pos (by omega), e1, e2, w64 (by omega) (by omega), show (j : Int) + 1 = ((j + 1 : Nat) : Int) by omega]
    show _ = headgateref02_More.l0 k (bs l) ((sts d (st r) : Nat) : Int) (wrap64 (i + 1))
    rw [← this]
    by_cases c : r % 2 = 1
    · rw [if_pos c] at hs
      rw [if_pos (by omega), show (2197175160 : Int) = ((2197175160 : Nat) : Int) from rfl, xor32 _ _ (by omega) (by omega), hs]
    · rw [if_neg c] at hs
      rw [if_neg (by omega), hs]
theorem rmore_l0 (l : List UInt8) (hl : l.length ≤ 9000000000000000000) (d : Nat) : ∀ (r i k : Nat), r < 4294967296 → l.length - i = d → i ≤ l.length → 10 * d + 1 ≤ k → headgateref02_More.l0 k (bs l) (r : Int) (i : Int) = some ((4294967295 - reg r (l.drop i) : Nat) : Int) := by
  induction d with
  | zero =>
    intro r i k hr hd hi hk
    obtain ⟨k, rfl⟩ : ∃ m, k = m + 1 := ⟨k - 1, by omega⟩
    rw [headgateref02_More.l0, if_neg (by rw [size_bs]; omega), List.drop_eq_nil_of_le (by omega)]
    show some _ = some (((4294967295 - r : Nat)) : Int)
    congr 1
    omega
  | succ d ih =>
    intro r i k hr hd hi hk
    obtain ⟨k, rfl⟩ : ∃ m, k = (m + 8 + 1) + 1 := ⟨k - 10, by omega⟩
    have hlt : i < l.length := by omega
    have hc := l[i].toNat_lt
    rw [headgateref02_More.l0, if_pos (by rw [size_bs]; omega), if_pos (by omega), byte_of l i hlt, show ((l[i].toNat : Int) % 4294967296) = ((l[i].toNat : Nat) : Int) by omega, xor32 _ _ hr (by omega)]
    have hx : r ^^^ l[i].toNat < 4294967296 := Nat.xor_lt_two_pow (n := 32) hr (by omega)
    have := rmore_l1 l (i : Int) 8 (r ^^^ l[i].toNat) 0 k hx (by omega) (by omega)
    rw [show ((0 : Nat) : Int) = 0 from rfl] at this
    rw [this, w64 (by omega) (by omega), show (i : Int) + 1 = ((i + 1 : Nat) : Int) by omega, ih _ (i + 1) k (sts_lt 8 hx) (by omega) (by omega) (by omega), List.drop_eq_getElem_cons hlt]
    rfl
theorem rsum_eq (l : List UInt8) (hl : l.length ≤ 9000000000000000000) (k : Nat) (hk : 10 * l.length + 1 ≤ k) : headgateref02_Sum.f k (bs l) = some ((sum l : Nat) : Int) := by
  have h := rmore_l0 l hl l.length 4294967295 0 k (by omega) (by omega) (by omega) hk
  unfold headgateref02_Sum.f headgateref02_More.f
  rw [show ((4294967295 : Int) - 0) % 4294967296 = ((4294967295 : Nat) : Int) from rfl]
  rw [show ((0 : Nat) : Int) = 0 from rfl] at h
  rw [h]
  rfl
theorem rbytes_eq (c : Nat) (h : c < 4294967296) (k : Nat) (hk : 10 ≤ k) : headgateref02_Bytes.f k (c : Int) = some (bs (b4 c)) := by
  obtain ⟨k, rfl⟩ : ∃ m, k = m + 5 := ⟨k - 5, by omega⟩
  have e1 : ∀ m : Nat, m < 4294967296 → (Int.tdiv (m : Int) 256) % 4294967296 = ((m / 256 : Nat) : Int) := fun m hm => by rw [Int.tdiv_eq_ediv_of_nonneg (by omega)]; omega
  have e2 : ∀ m : Nat, (Int.tmod (m : Int) 256) % 256 = ((m % 256 : Nat) : Int) := fun m => by rw [Int.tmod_eq_emod_of_nonneg (by omega)]; omega
  have a1 := e1 c h
  have a2 := e1 (c / 256) (by omega)
  have a3 := e1 (c / 256 / 256) (by omega)
  have a4 := e1 (c / 256 / 256 / 256) (by omega)
  unfold headgateref02_Bytes.f
  rw [headgateref02_Bytes.l0, if_pos (by omega), if_pos (by simp), a1, e2, w64 (by omega) (by omega), headgateref02_Bytes.l0, if_pos (by omega), if_pos (by simp), a2, e2, w64 (by omega) (by omega), headgateref02_Bytes.l0, if_pos (by omega), if_pos (by simp), a3, e2, w64 (by omega) (by omega), headgateref02_Bytes.l0, if_pos (by omega), if_pos (by simp), a4, e2, w64 (by omega) (by omega), headgateref02_Bytes.l0, if_neg (by omega)]
  congr 1
  rw [strOfNums_bs]
  simp only [List.nil_append, List.cons_append, List.map_cons, List.map_nil, Int.toNat_natCast, b4]
  rw [show c / 256 / 256 % 256 = c / 65536 % 256 by omega, show c / 256 / 256 / 256 % 256 = c / 16777216 % 256 by omega]
theorem rseal_eq (l : List UInt8) (hl : l.length ≤ 9000000000000000000) (k : Nat) (hk : 10 * l.length + 20 ≤ k) : headgateref02_Seal.f k (bs l) = some (bs (sealT l)) := by
  unfold headgateref02_Seal.f
  rw [rsum_eq l hl k (by omega), Option.bind_some, rbytes_eq _ (sum_lt l) k (by omega), Option.bind_some, if_pos (by rw [size_bs, size_bs, b4_len]; omega), append_bs]
  rfl
theorem check_eq (x : E) : frame_Check.f x.base x.n (bs x.text) = some (if may x then 0 else 1) := by
  unfold frame_Check.f
  rw [size_bs]
  by_cases h1 : x.base < 0
  · rw [if_pos h1, if_neg (by unfold may; omega)]
  · rw [if_neg h1]
    by_cases h2 : x.base > 1099511627776
    · rw [if_pos h2, if_neg (by unfold may; omega)]
    · rw [if_neg h2]
      by_cases h3 : x.n < 1
      · rw [if_pos h3, if_neg (by unfold may; omega)]
      · rw [if_neg h3]
        by_cases h4 : x.n > 64
        · rw [if_pos h4, if_neg (by unfold may; omega)]
        · rw [if_neg h4]
          by_cases h5 : (x.text.length : Int) > 65536
          · rw [if_pos h5, if_neg (by unfold may; omega)]
          · rw [if_neg h5, if_pos (by unfold may; omega)]
theorem rmay_eq (x : E) : headgateref03_May.f x.base x.n (bs x.text) = some (decide (may x)) := by
  unfold headgateref03_May.f
  rw [size_bs]
  by_cases h1 : x.base ≥ 0
  · rw [if_pos h1]
    by_cases h2 : x.base ≤ 1099511627776
    · rw [if_pos h2]
      by_cases h3 : x.n ≥ 1
      · rw [if_pos h3]
        by_cases h4 : x.n ≤ 64
        · rw [if_pos h4]
          congr 1
          rw [decide_eq_decide]
          unfold may
          omega
        · rw [if_neg h4, decide_eq_false (by unfold may; omega)]
      · rw [if_neg h3, decide_eq_false (by unfold may; omega)]
    · rw [if_neg h2, decide_eq_false (by unfold may; omega)]
  · rw [if_neg h1, decide_eq_false (by unfold may; omega)]
def layR (x : E) : ByteArray × Int := if may x then (bs (fr x), 0) else (bs [], 1)
theorem lay_eq (x : E) (k : Nat) (hk : 1000000 ≤ k) : frame_Lay.f k x.base x.n (bs x.text) = some (layR x) := by
  unfold frame_Lay.f layR
  rw [check_eq, Option.bind_some]
  by_cases h : may x
  · obtain ⟨i1, i2⟩ := i64_of_may h
    have hb := body_len x
    have hp := Fr.ptext_len (body x)
    have hm := h
    unfold may at hm
    have e1 := enc_len x.base
    have e2 := enc_len x.n
    have e : (([x.base, x.n] : List Int).flatMap enc) = enc x.base ++ enc x.n := by simp
    rw [if_pos h, if_pos h, if_pos rfl, putAll_eq _ (by simp) (fun y hy => by rcases List.mem_cons.1 hy with rfl | hy; exact i1; rcases List.mem_cons.1 hy with rfl | hy; exact i2; cases hy), Option.bind_some, e, if_pos (by rw [size_bs, size_bs, List.length_append]; omega), append_bs]
    show ((varint_PutText.f (bs (body x))).bind _) = _
    rw [putText_eq _ (by omega), Option.bind_some, seal_eq _ (by omega) k (by omega), Option.bind_some]
    rfl
  · rw [if_neg h, if_neg h, if_neg (by decide)]
    rfl
theorem rlay_eq (x : E) (k : Nat) (hk : 1000000 ≤ k) : headgateref03_Lay.f k x.base x.n (bs x.text) = some (layR x) := by
  unfold headgateref03_Lay.f layR
  rw [rmay_eq, Option.bind_some]
  by_cases h : may x
  · obtain ⟨i1, i2⟩ := i64_of_may h
    have hb := body_len x
    have hp := Fr.ptext_len (body x)
    have hm := h
    unfold may at hm
    have e1 := enc_len x.base
    have e2 := enc_len x.n
    rw [if_pos h, decide_eq_true h, if_pos rfl, put_f _ i1 k (by omega), Option.bind_some, put_f _ i2 k (by omega), Option.bind_some, if_pos (by rw [size_bs, size_bs]; omega), append_bs, if_pos (by rw [size_bs, size_bs, List.length_append]; omega), append_bs]
    show ((headgateref01_Text.f k (bs (body x))).bind _) = _
    rw [rtext_eq _ (by omega) k (by omega), Option.bind_some, rseal_eq _ (by omega) k (by omega), Option.bind_some]
    rfl
  · rw [if_neg h, decide_eq_false h, if_neg (by decide)]
    rfl
def takeFR : Option (E × List UInt8) → Int × Int × ByteArray × ByteArray × Int
  | some (x, r) => (x.base, x.n, bs x.text, bs r, 0)
  | none => (0, 0, bs [], bs [], 2)
theorem tR1 (x : E) (r : List UInt8) : (takeFR (some (x, r))).1 = x.base := rfl
theorem tR2 (x : E) (r : List UInt8) : (takeFR (some (x, r))).2.1 = x.n := rfl
theorem tR3 (x : E) (r : List UInt8) : (takeFR (some (x, r))).2.2.1 = bs x.text := rfl
theorem tR4 (x : E) (r : List UInt8) : (takeFR (some (x, r))).2.2.2.1 = bs r := rfl
theorem tR5 (x : E) (r : List UInt8) : (takeFR (some (x, r))).2.2.2.2 = 0 := rfl
theorem tN5 : (takeFR none).2.2.2.2 = 2 := rfl
theorem allR_s1 (a : List Int) (b : List UInt8) : (allR (some (a, b))).1 = a := rfl
theorem allR_s2 (a : List Int) (b : List UInt8) : (allR (some (a, b))).2.1 = bs b := rfl
theorem allR_s3 (a : List Int) (b : List UInt8) : (allR (some (a, b))).2.2 = 0 := rfl
theorem allR_n3 : (allR none).2.2 = 2 := rfl
theorem textR_1 (a b : List UInt8) : (textR (some (a, b))).1 = bs a := rfl
theorem takeAllR_2 (b : List UInt8) : takeAllR b 2 = allR ((dec b).bind fun p => (dec p.2).bind fun q => some ([p.1, q.1], q.2)) := by
  unfold takeAllR
  rw [if_neg (by omega)]
  show allR (decN 2 b) = _
  unfold decN decN decN
  cases dec b with
  | none => rfl
  | some p =>
    rw [Option.bind_some, Option.bind_some]
    cases dec p.2 with
    | none => rfl
    | some q => rfl
theorem take_all (s : List UInt8) (hs : s.length ≤ 9000000000000000) (k : Nat) (hk : 10 * s.length + 1000 ≤ k) : frame_Take.f k (bs s) = some (takeFR (takeF s)) := by
  obtain ⟨k, rfl⟩ : ∃ m, k = m + 1 := ⟨k - 1, by omega⟩
  unfold frame_Take.f takeF
  rw [takeText_eq s (by omega), Option.bind_some]
  cases ht : ttext s 131072 with
  | none =>
    show (if (2 : Int) = 0 then _ else _) = _
    rw [if_neg (by decide), frame_Take.j0, if_pos rfl]
    rfl
  | some p =>
    obtain ⟨b, rest⟩ := p
    obtain ⟨h1, h2⟩ := ttext_some ht
    have hp := Fr.ptext_len b
    have hl : s.length = (ptext b).length + rest.length := by rw [h1, List.length_append]
    show (if (0 : Int) = 0 then frame_Take.j0 (k + 1) (bs s) (bs rest) (decide (((bs rest).size : Int) < 4)) else _) = _
    rw [if_pos rfl, size_bs, Option.bind_some]
    dsimp only
    by_cases c : rest.length < 4
    · rw [if_pos c, decide_eq_true (by omega), frame_Take.j0, if_pos rfl]
      rfl
    · rw [if_neg c, decide_eq_false (by omega), frame_Take.j0, if_neg (by decide), size_bs, size_bs, w64 (x := (s.length : Int) - (rest.length : Int)) (by omega) (by omega), w64 (by omega) (by omega), if_pos (by omega), if_pos (by omega), extract_bs, List.drop_zero, show ((s.length : Int) - (rest.length : Int) + 4).toNat - 0 = s.length - rest.length + 4 by omega]
      have hwl : (s.take (s.length - rest.length + 4)).length = (ptext b).length + 4 := by rw [List.length_take]; omega
      rw [unseal_eq _ (by omega) k (by omega), Option.bind_some]
      by_cases hse : sealed (s.take (s.length - rest.length + 4)) = true
      · rw [if_pos hse, if_pos hse]
        dsimp only
        have hw : (s.take (s.length - rest.length + 4)).take ((s.take (s.length - rest.length + 4)).length - 4) = ptext b := by
          rw [hwl, Nat.add_sub_cancel, List.take_take, Nat.min_eq_left (by omega), h1, List.take_left]
        have htt := ttext_ptext b [] (by omega) ((ptext b).length : Int) (by omega)
        rw [List.append_nil] at htt
        rw [if_pos rfl, hw, size_bs, takeText_eq _ (by omega), htt, Option.bind_some]
        rw [textR_1, takeAll_eq b (by omega) 2 k (by omega), Option.bind_some, takeAllR_2]
        unfold inside
        cases hd : dec b with
        | none =>
          rw [Option.bind_none, Option.bind_none]
          rw [allR_n3, if_neg (show ¬ (2 : Int) = 0 by decide)]
          rfl
        | some p =>
          rw [Option.bind_some, Option.bind_some]
          cases hq : dec p.2 with
          | none =>
            rw [Option.bind_none, Option.bind_none]
            rw [allR_n3, if_neg (show ¬ (2 : Int) = 0 by decide)]
            rfl
          | some q =>
            rw [Option.bind_some, Option.bind_some]
            rw [allR_s3, allR_s1, allR_s2, if_pos rfl, if_pos (by simp), if_pos (by simp), show rd [p.1, q.1] 0 = p.1 from rfl, show rd [p.1, q.1] 1 = q.1 from rfl]
            have := check_eq ⟨p.1, q.1, q.2⟩
            dsimp only at this
            rw [this, Option.bind_some]
            by_cases hm : may ⟨p.1, q.1, q.2⟩
            · rw [if_pos hm, if_pos hm, if_pos rfl, if_pos (by omega), extract_bs, List.take_of_length_le (by rw [List.length_drop]; exact Nat.le_refl _)]
              rfl
            · rw [if_neg hm, if_neg hm, if_neg (by decide)]
              rfl
      · rw [if_neg hse, if_neg hse]
        dsimp only
        rw [if_neg (by decide)]
        rfl
theorem rtake_all (s : List UInt8) (hs : s.length ≤ 9000000000000000) (k : Nat) (hk : 10 * s.length + 1000100 ≤ k) : headgateref03_Take.f k (bs s) = some (takeFR (takeF s)) := by
  obtain ⟨k, rfl⟩ : ∃ m, k = m + 2 := ⟨k - 2, by omega⟩
  have hsmall : ∀ {b rest : List UInt8}, s = ptext b ++ rest → 131072 < b.length → takeF s = none := fun {b rest} h1 hb => by
    have h2 := ttext_short b rest (by have : s.length = (ptext b).length + rest.length := by rw [h1, List.length_append]
                                      have := Fr.ptext_len b
                                      omega) 131072 (by omega)
    rw [← h1] at h2
    unfold takeF
    rw [h2]; rfl
  unfold headgateref03_Take.f
  rw [size_bs, rtakeText_eq s (by omega) _ _ (by omega), Option.bind_some]
  cases ht : ttext s (s.length : Int) with
  | none =>
    have h0 : takeF s = none := by
      unfold takeF
      cases hu : ttext s 131072 with
      | none => rfl
      | some p =>
        obtain ⟨b, rest⟩ := p
        obtain ⟨h1, h2⟩ := ttext_some hu
        have hp := Fr.ptext_len b
        have hl : s.length = (ptext b).length + rest.length := by rw [h1, List.length_append]
        have := ttext_ptext b rest (by omega) (s.length : Int) (by omega)
        rw [← h1, ht] at this
        cases this
    rw [h0]
    show (if (2 : Int) = 0 then _ else _) = _
    rw [if_neg (by decide), headgateref03_Take.j0, if_pos rfl]
    rfl
  | some p =>
    obtain ⟨b, rest⟩ := p
    obtain ⟨h1, h2⟩ := ttext_some ht
    have hp := Fr.ptext_len b
    have hl : s.length = (ptext b).length + rest.length := by rw [h1, List.length_append]
    have hT : b.length ≤ 131072 → takeF s = if rest.length < 4 then none else if sealed (s.take (s.length - rest.length + 4)) = true then (inside b).map fun x => (x, rest.drop 4) else none := fun hb => by
      have := ttext_ptext b rest (by omega) 131072 (by omega)
      rw [← h1] at this
      unfold takeF
      rw [this]; rfl
    show (if (0 : Int) = 0 then headgateref03_Take.j0 (k + 2) (bs s) (bs b) (bs rest) (decide (((bs rest).size : Int) < 4)) 0 0 (⟨#[]⟩ : ByteArray) else _) = _
    rw [if_pos rfl, size_bs]
    by_cases c : rest.length < 4
    · have h0 : takeF s = none := by
        rcases Nat.lt_or_ge 131072 b.length with hb | hb
        · exact hsmall h1 hb
        · rw [hT hb, if_pos c]
      rw [h0, decide_eq_true (by omega), headgateref03_Take.j0, if_pos rfl]
      rfl
    · rw [decide_eq_false (by omega), headgateref03_Take.j0, if_neg (by decide), take_f b (by omega) _ (by omega), Option.bind_some]
      cases hd : dec b with
      | none =>
        have h0 : takeF s = none := by
          rcases Nat.lt_or_ge 131072 b.length with hb | hb
          · exact hsmall h1 hb
          · rw [hT hb, if_neg c]
            unfold inside
            rw [hd]
            split <;> rfl
        rw [h0, takeR_n2, take_f [] (by simp) _ (by omega), Option.bind_some, takeR_n3, if_neg (by decide), headgateref03_Take.j1, if_pos rfl]
        rfl
      | some p =>
        obtain ⟨v1, r1⟩ := p
        obtain ⟨hb1, hi1⟩ := (dec_iff b v1 r1).1 hd
        have hr1 : r1.length ≤ b.length := by rw [hb1, List.length_append]; omega
        rw [takeR_1, takeR_2, takeR_3, take_f r1 (by omega) _ (by omega), Option.bind_some, if_pos rfl]
        cases hq : dec r1 with
        | none =>
          have h0 : takeF s = none := by
            rcases Nat.lt_or_ge 131072 b.length with hb | hb
            · exact hsmall h1 hb
            · rw [hT hb, if_neg c]
              unfold inside
              rw [hd, Option.bind_some]
              dsimp only
              rw [hq]
              split <;> rfl
          rw [h0, takeR_n1, takeR_n2, takeR_n3, show ((2 : Int) != 0) = true from rfl, headgateref03_Take.j1, if_pos rfl]
          rfl
        | some q =>
          obtain ⟨v2, r2⟩ := q
          obtain ⟨hb2, hi2⟩ := (dec_iff r1 v2 r2).1 hq
          have hbody : b = body ⟨v1, v2, r2⟩ := by
            unfold body
            rw [List.append_assoc, ← hb2, ← hb1]
          have hin : inside b = if may ⟨v1, v2, r2⟩ then some ⟨v1, v2, r2⟩ else none := by
            unfold inside
            rw [hd, Option.bind_some]
            dsimp only
            rw [hq, Option.bind_some]
          have hlay := rlay_eq ⟨v1, v2, r2⟩ k (by omega)
          dsimp only at hlay
          rw [takeR_1, takeR_2, takeR_3, show ((0 : Int) != 0) = false from rfl, headgateref03_Take.j1, if_neg (by decide), hlay, Option.bind_some]
          unfold layR
          by_cases hm : may ⟨v1, v2, r2⟩
          · have hm2 := hm
            unfold may at hm2
            dsimp only at hm2
            have hbl := body_len ⟨v1, v2, r2⟩
            rw [← hbody] at hbl
            dsimp only at hbl
            rw [if_pos hm, if_pos rfl, size_bs, size_bs, w64 (x := (s.length : Int) - (rest.length : Int)) (by omega) (by omega), w64 (by omega) (by omega), if_pos (by omega), if_pos (by omega), extract_bs, extract_bs, List.drop_zero, show ((s.length : Int) - (rest.length : Int) + 4).toNat - 0 = s.length - rest.length + 4 by omega, show ((s.length : Int) - (rest.length : Int) + 4).toNat = s.length - rest.length + 4 by omega, toList_bs, toList_bs, hT (by omega), if_neg c, hin, if_pos hm]
            have hw := take_of_app h1
            have hfr : fr ⟨v1, v2, r2⟩ = ptext b ++ b4 (sum (ptext b)) := by rw [hbody]; rfl
            have hdr : s.drop (s.length - rest.length + 4) = rest.drop 4 := by
              rw [← List.drop_drop, show s.length - rest.length = (ptext b).length by omega, h1, List.drop_left]
            have hll : (ptext b ++ rest.take 4).length - 4 = (ptext b).length := by rw [List.length_append, List.length_take]; omega
            by_cases he : fr ⟨v1, v2, r2⟩ = s.take (s.length - rest.length + 4)
            · rw [if_pos he, ← he, if_pos (show sealed (fr ⟨v1, v2, r2⟩) = true from sealed_sealT _), hdr, List.take_of_length_le (by rw [List.length_drop]; omega)]
              rfl
            · rw [if_neg he, if_neg ?_]
              · rfl
              · intro hse
                obtain ⟨_, h5⟩ := of_sealed hse
                apply he
                rw [h5, hw, hll, List.take_left, hfr]
                rfl
          · rw [if_neg hm, if_neg (by decide)]
            have h0 : takeF s = none := by
              rcases Nat.lt_or_ge 131072 b.length with hb | hb
              · exact hsmall h1 hb
              · rw [hT hb, if_neg c, hin, if_neg hm]
                split <;> rfl
            rw [h0]
            rfl
theorem awake_eq (k : Nat) (hk : 2000000 ≤ k) : headgatelaw03_awake.f k = some true := by
  have hm : may ⟨0, 1, [97]⟩ := by unfold may; simp
  have h1 := lay_eq ⟨0, 1, [97]⟩ k (by omega)
  have hl : (fr ⟨0, 1, [97]⟩).length = 8 := by
    have e : body ⟨0, 1, [97]⟩ = [0, 2, 97] := by decide
    unfold fr
    rw [e, sealT_len, show ptext [0, 2, 97] = [6, 0, 2, 97] by decide]
    rfl
  have ht : (fr ⟨0, 1, [97]⟩).take 4 = [6, 0, 2, 97] := by
    have e : body ⟨0, 1, [97]⟩ = [0, 2, 97] := by decide
    unfold fr
    rw [e, show ptext [0, 2, 97] = [6, 0, 2, 97] by decide]
    rfl
  have h2 := take_all (fr ⟨0, 1, [97]⟩ ++ [98]) (by rw [List.length_append, hl]; simp) k (by rw [List.length_append, hl]; simp; omega)
  rw [takeF_fr hm [98] (by simp)] at h2
  unfold layR at h1
  rw [if_pos hm] at h1
  dsimp only at h1
  unfold headgatelaw03_awake.f
  rw [show ((⟨#[97]⟩ : ByteArray)) = bs [97] from rfl, h1, Option.bind_some]
  dsimp only
  rw [if_pos (by rw [size_bs, hl]; omega), show ((⟨#[98]⟩ : ByteArray)) = bs [98] from rfl, append_bs, h2, Option.bind_some, size_bs, hl]
  rw [if_pos (by decide), if_pos (by decide), if_pos (by decide), extract_bs, List.drop_zero, toList_bs, show (4 : Nat) - 0 = 4 from rfl, ht, if_pos rfl, if_pos rfl, tR1, tR2, tR3, tR4, tR5, toList_bs, toList_bs, if_pos (by decide), if_pos rfl]
  rfl
end Go.Proofs.Ytgfmbddkefjchaa.Fp
set_option linter.unusedVariables false
set_option linter.unusedSimpArgs false
namespace Go.Proofs.Ytgfmbddkefjchaa.Fw
open Go.RowKit Go.Proofs.Ytgfmbddkefjchaa.Vm Go.Proofs.Ytgfmbddkefjchaa.Vref Go.Proofs.Ytgfmbddkefjchaa.Vp Go.Proofs.Ytgfmbddkefjchaa.Ck Go.Proofs.Ytgfmbddkefjchaa.Fr Go.Proofs.Ytgfmbddkefjchaa.Fp Go.Proofs.Ytgfmbddkefjchaa.P Go.Proofs.YtgfmbddkefjchaaW.PrintWords
def toS (x : E) : S23 := ⟨x.base, x.n, bs x.text⟩
def toP (p : E × Nat) : Int × S23 := ((p.2 : Int), toS p.1)
theorem rowF_some {s : List UInt8} {x : E} {r : List UInt8} (h : takeF s = some (x, r)) (m : Nat) : rowF (m + 1) s = (x, s.length - r.length) :: rowF m r := by
  show (match takeF s with | some (x, r) => (x, s.length - r.length) :: rowF m r | none => []) = _
  rw [h]
theorem rowF_none {s : List UInt8} (h : takeF s = none) (m : Nat) : rowF (m + 1) s = [] := by
  show (match takeF s with | some (x, r) => (x, s.length - r.length) :: rowF m r | none => []) = _
  rw [h]
theorem go_eq (k : Nat) : ∀ (m : Nat) (s : List UInt8), s.length < m → s.length ≤ 1000000 → 10 * s.length + 1000 ≤ k → frame_Row.go k m (bs s) = some ((rowF m s).map toP)
  | 0, s, h, _, _ => by omega
  | m + 1, s, h, hs, hk => by
    show ((frame_Take.f k (bs s)).bind _) = _
    rw [take_all s (by omega) k hk, Option.bind_some]
    cases ht : takeF s with
    | none =>
      rw [rowF_none ht, tN5, if_neg (by decide)]
      rfl
    | some p =>
      obtain ⟨x, r⟩ := p
      have hl := takeF_len (by omega) ht
      rw [rowF_some ht, tR1, tR2, tR3, tR4, tR5, if_pos rfl, size_bs, size_bs, if_pos (by omega), go_eq k m r (by omega) (by omega) (by omega), Option.bind_some, w64 (by omega) (by omega), List.map_cons]
      congr 2
      show ((s.length : Int) - (r.length : Int), _) = (((s.length - r.length : Nat) : Int), _)
      rw [show ((s.length : Int) - (r.length : Int)) = ((s.length - r.length : Nat) : Int) by omega]
      rfl
theorem sum_from : ∀ (l : List (E × Nat)) (a : Nat), a + sumN l ≤ 1000000000000 → (l.map toP).foldl (fun a x => wrap64 (a + x.1)) (a : Int) = ((a + sumN l : Nat) : Int)
  | [], a, _ => rfl
  | p :: l, a, h => by
    rw [sumN_cons] at h
    rw [List.map_cons, List.foldl_cons, sumN_cons]
    have e : wrap64 ((a : Int) + (toP p).1) = ((a + p.2 : Nat) : Int) := by
      show wrap64 ((a : Int) + (p.2 : Int)) = _
      rw [w64 (by omega) (by omega)]; omega
    rw [e, sum_from l (a + p.2) (by omega), Nat.add_assoc]
theorem rowF_long : ∀ (m : Nat) (s : List UInt8), s.length ≤ 1000000000 → (rowF m s).length ≤ s.length
  | 0, s, _ => by simp [rowF]
  | m + 1, s, hs => by
    cases ht : takeF s with
    | none => rw [rowF_none ht]; simp
    | some p =>
      obtain ⟨x, r⟩ := p
      have hl := takeF_len (by omega) ht
      have := rowF_long m r (by omega)
      rw [rowF_some ht, List.length_cons]; omega
theorem row_eq (s : List UInt8) (hs : s.length ≤ 1000000) (k : Nat) (hk : 10 * s.length + 1000 ≤ k) : frame_Row.f k (bs s) = some ((rowF k s).map (fun p => toS p.1), ((sumN (rowF k s) : Nat) : Int)) := by
  have h1 := (rowF_sum k s (by omega) (by omega)).1
  have h2 := rowF_long k s (by omega)
  have h3 := sum_from (rowF k s) 0 (by omega)
  unfold frame_Row.f
  rw [go_eq k k s (by omega) hs hk, Option.bind_some, if_pos ⟨by rw [size_bs]; omega, by rw [List.length_map]; omega⟩, List.map_map]
  unfold frame_Row.sum
  rw [Nat.zero_add, show ((0 : Nat) : Int) = 0 from rfl] at h3
  rw [h3]
  rfl
theorem rrow_l0 (K : Nat) : ∀ (m : Nat) (s : List UInt8) (acc : List S23) (n : Nat), s.length < m → s.length ≤ 1000000 → n + s.length ≤ 1000000 → acc.length ≤ n → 10 * s.length + 1000100 ≤ K →
    headgateref03_Row.l0 (K + m) (bs s) acc (n : Int) = some (acc ++ (rowF m s).map (fun p => toS p.1), ((n + sumN (rowF m s) : Nat) : Int))
  | 0, s, acc, n, h, _, _, _, _ => by omega
  | m + 1, s, acc, n, h, hs, hn, ha, hk => by
    rw [show K + (m + 1) = (K + m) + 1 by omega, headgateref03_Row.l0, rtake_all s (by omega) (K + m) (by omega), Option.bind_some]
    cases ht : takeF s with
    | none =>
      rw [rowF_none ht, tN5, if_neg (by decide)]
      simp [sumN]
    | some p =>
      obtain ⟨x, r⟩ := p
      have hl := takeF_len (by omega) ht
      have e : wrap64 (wrap64 ((n : Int) + (s.length : Int)) - (r.length : Int)) = ((n + (s.length - r.length) : Nat) : Int) := by
        rw [w64 (x := (n : Int) + (s.length : Int)) (by omega) (by omega), w64 (by omega) (by omega)]; omega
      rw [rowF_some ht, tR1, tR2, tR3, tR4, tR5, if_pos rfl, if_pos (by omega), size_bs, size_bs, e, rrow_l0 K m r _ _ (by omega) (by omega) (by omega) (by rw [List.length_append, List.length_singleton]; omega) (by omega), List.map_cons, List.append_assoc, sumN_cons]
      rw [Nat.add_assoc]
      rfl
theorem rrow_eq (s : List UInt8) (hs : s.length ≤ 1000000) (k : Nat) (hk : 11 * s.length + 1000200 ≤ k) : headgateref03_Row.f k (bs s) = some ((rowF k s).map (fun p => toS p.1), ((sumN (rowF k s) : Nat) : Int)) := by
  have h := rrow_l0 (k - s.length - 1) (s.length + 1) s [] 0 (by omega) hs (by omega) (by simp) (by omega)
  rw [show k - s.length - 1 + (s.length + 1) = k by omega, List.nil_append, Nat.zero_add, rowF_more (s.length + 1) k s (by omega) (by omega) (by omega)] at h
  exact h
theorem same_l0 (l : List S23) (hl : l.length ≤ 1000000) (d : Nat) : ∀ (j k : Nat), l.length - j = d → d < k → headgateref03_Same.l0 k l l (j : Int) = some true := by
  induction d with
  | zero =>
    intro j k hd hk
    obtain ⟨k, rfl⟩ : ∃ m, k = m + 1 := ⟨k - 1, by omega⟩
    rw [headgateref03_Same.l0, if_neg (by omega)]
  | succ d ih =>
    intro j k hd hk
    obtain ⟨k, rfl⟩ : ∃ m, k = m + 1 := ⟨k - 1, by omega⟩
    have e1 : wrap64 ((j : Int) + 1) = ((j + 1 : Nat) : Int) := by rw [w64 (by omega) (by omega)]; omega
    rw [headgateref03_Same.l0, if_pos (by omega), if_pos (by omega), if_pos (by omega), if_neg (by simp), e1, ih (j + 1) k (by omega) (by omega)]
theorem same_self (l : List S23) (hl : l.length ≤ 1000000) (k : Nat) (hk : l.length < k) : headgateref03_Same.f k l l = some true := by
  unfold headgateref03_Same.f
  rw [if_pos rfl]
  have := same_l0 l hl l.length 0 k (by omega) hk
  exact this
end Go.Proofs.Ytgfmbddkefjchaa.Fw
set_option linter.unusedVariables false
namespace Go.Proofs.Ytgfmbddkefjchaa.Pure
open Go.RowKit Go.Proofs.Ytgfmbddkefjchaa.Vm Go.Proofs.Ytgfmbddkefjchaa.Vref Go.Proofs.Ytgfmbddkefjchaa.Vp Go.Proofs.Ytgfmbddkefjchaa.Ck Go.Proofs.Ytgfmbddkefjchaa.Fr Go.Proofs.Ytgfmbddkefjchaa.Fp Go.Proofs.Ytgfmbddkefjchaa.Fw Go.Proofs.Ytgfmbddkefjchaa.P Go.Proofs.YtgfmbddkefjchaaW.PrintWords
theorem FrameRows : headgatelaw03_FrameRows.Pure := by
  intro s hs
  obtain ⟨l, rfl⟩ := bs_of s
  rw [size_bs] at hs
  refine ⟨4000001, ?_⟩
  unfold headgatelaw03_FrameRows.f headgatelaw03_light.f
  rw [Option.bind_some]
  by_cases c : decide (((bs l).size : Int) ≤ 100000) = true
  · have c2 := of_decide_eq_true c
    rw [size_bs] at c2
    obtain ⟨h1, h2⟩ := rowF_sum 4000001 l (by omega) (by omega)
    have h3 := rowF_long 4000001 l (by omega)
    rw [if_pos c, row_eq l (by omega) _ (by omega), Option.bind_some, rrow_eq l (by omega) _ (by omega), Option.bind_some]
    dsimp only
    generalize sumN (rowF 4000001 l) = n at h1 h2
    rw [same_self _ (by rw [List.length_map]; omega) _ (by rw [List.length_map]; omega), Option.bind_some, if_pos rfl, if_pos rfl, if_neg (by omega), size_bs, decide_eq_false (show ¬ ((n : Nat) : Int) > (l.length : Int) by omega), show 4000001 = 4000000 + 1 from rfl, headgatelaw03_FrameRows.j0, if_neg Bool.false_ne_true, if_pos (by omega), size_bs, if_pos (by omega), extract_bs, Int.toNat_natCast, List.take_of_length_le (by rw [List.length_drop]; exact Nat.le_refl _), take_all _ (by rw [List.length_drop]; omega) _ (by rw [List.length_drop]; omega), Option.bind_some, h2, tN5, if_pos rfl, awake_eq _ (by omega), Option.bind_some]
  · rw [if_neg c, awake_eq _ (by omega), Option.bind_some]
end Go.Proofs.Ytgfmbddkefjchaa.Pure
