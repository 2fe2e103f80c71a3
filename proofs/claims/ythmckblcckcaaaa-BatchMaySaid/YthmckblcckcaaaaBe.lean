/- Batches: the bytes of a record and of a batch (batch.PutRecord, batch.Encode, headgateref06). -/
import Derived.Test.YthmckblcckcaaaaBt
import Derived.Test.YthmckblcckcaaaaPx17
import Derived.Test.YthmckblcckcaaaaPx19
import Derived.Test.YthmckblcckcaaaaPx5
set_option linter.unusedVariables false
set_option linter.unusedSimpArgs false
namespace Go.Proofs.Ythmckblcckcaaaa.Be
open Go.RowKit Go.Proofs.Ythmckblcckcaaaa.Vm Go.Proofs.Ythmckblcckcaaaa.Vref Go.Proofs.Ythmckblcckcaaaa.Vp Go.Proofs.Ythmckblcckcaaaa.Bt Go.Proofs.Ythmckblcckcaaaa.P Go.Proofs.YthmckblcckcaaaaW.PrintWords Go.Proofs.YthmckblcckcaaaaW.PrintLast

def encR (x : S31) : List UInt8 := enc x.f0 ++ enc x.f1 ++ ptext x.f2.data.toList
def encB (kd p e s : Int) (l : List S31) : List UInt8 := [kd, p, e, s, (l.length : Int)].flatMap enc ++ l.flatMap encR
theorem encR_len (x : S31) : (encR x).length ≤ x.f2.size + 30 := by
  have h1 := (enc_len x.f0).2
  have h2 := (enc_len x.f1).2
  have h3 := ptext_len x.f2.data.toList
  have h4 : x.f2.data.toList.length = x.f2.size := by simp
  unfold encR
  rw [List.length_append, List.length_append]
  omega
theorem mayR_i64 {x : S31} (h : mayR x = true) : I64 x.f0 ∧ I64 x.f1 ∧ x.f2.size ≤ 512 := by
  rw [mayR_iff] at h
  unfold I64
  omega
theorem put2 (x : S31) (h0 : I64 x.f0) (h1 : I64 x.f1) (h2 : x.f2.size ≤ 9000000000000000000) : batch_PutRecord.f x.f0 x.f1 x.f2 = some (bs (encR x)) := by
  have e1 := (enc_len x.f0).2
  have e2 := (enc_len x.f1).2
  have e3 := ptext_len x.f2.data.toList
  have e4 : x.f2.data.toList.length = x.f2.size := by simp
  have hp := putText_eq x.f2.data.toList (by omega)
  rw [bs_data] at hp
  unfold batch_PutRecord.f
  rw [putAll_eq [x.f0, x.f1] (by simp) (fun y hy => by rcases List.mem_cons.1 hy with rfl | hy; exact h0; rcases List.mem_cons.1 hy with rfl | hy; exact h1; cases hy), Option.bind_some, hp, Option.bind_some]
  have hf : [x.f0, x.f1].flatMap enc = enc x.f0 ++ enc x.f1 := by simp
  rw [hf, if_pos (by rw [size_bs, size_bs, List.length_append]; omega), append_bs]
  rfl
theorem rrec2 (x : S31) (h0 : I64 x.f0) (h1 : I64 x.f1) (h2 : x.f2.size ≤ 9000000000000000000) (k : Nat) (hk : 20 ≤ k) : headgateref06_Record.f k x.f0 x.f1 x.f2 = some (bs (encR x)) := by
  have e1 := (enc_len x.f0).2
  have e2 := (enc_len x.f1).2
  have e3 := ptext_len x.f2.data.toList
  have e4 : x.f2.data.toList.length = x.f2.size := by simp
  have hp := rtext_eq x.f2.data.toList (by omega) k (by omega)
  rw [bs_data] at hp
  unfold headgateref06_Record.f
  rw [put_f _ h0 k (by omega), Option.bind_some, put_f _ h1 k (by omega), Option.bind_some, if_pos (by rw [size_bs, size_bs]; omega), hp, Option.bind_some, append_bs, if_pos (by rw [size_bs, size_bs, List.length_append]; omega), append_bs]
  rfl
theorem mayB_iff {kd p e s : Int} {l : List S31} : mayB kd p e s l = true ↔ mayH p e s = true ∧ l.length ≤ 64 ∧ (∀ x ∈ l, mayR x = true) ∧ mayK kd p e s l.length = true := by
  unfold mayB
  rw [Bool.and_eq_true, Bool.and_eq_true, Bool.and_eq_true, decide_eq_true_eq, List.all_eq_true]
  exact ⟨fun ⟨⟨⟨a, b⟩, c⟩, d⟩ => ⟨a, b, c, d⟩, fun ⟨a, b, c, d⟩ => ⟨⟨⟨a, b⟩, c⟩, d⟩⟩
theorem mayB_i64 {kd p e s : Int} {l : List S31} (h : mayB kd p e s l = true) : I64 kd ∧ I64 p ∧ I64 e ∧ I64 s ∧ I64 (l.length : Int) := by
  obtain ⟨h1, h2, h3, h4⟩ := mayB_iff.1 h
  unfold mayH at h1
  unfold mayK at h4
  rw [decide_eq_true_eq] at h1 h4
  unfold I64
  omega
theorem encRs_len (l : List S31) (h : ∀ x ∈ l, mayR x = true) : (l.flatMap encR).length ≤ 542 * l.length := by
  induction l with
  | nil => simp
  | cons x r ih =>
    have := ih fun y hy => h y (List.mem_cons_of_mem _ hy)
    have h1 := encR_len x
    have h2 := (mayR_i64 (h x (List.mem_cons_self ..))).2.2
    rw [List.flatMap_cons, List.length_append, List.length_cons]
    omega
theorem five_len (a b c d e : Int) : ([a, b, c, d, e].flatMap enc).length ≤ 50 := by
  have h1 := (enc_len a).2
  have h2 := (enc_len b).2
  have h3 := (enc_len c).2
  have h4 := (enc_len d).2
  have h5 := (enc_len e).2
  simp only [List.flatMap_cons, List.flatMap_nil, List.length_append, List.length_nil]
  omega
theorem encB_len {kd p e s : Int} {l : List S31} (h : mayB kd p e s l = true) : (encB kd p e s l).length ≤ 40000 := by
  obtain ⟨h1, h2, h3, h4⟩ := mayB_iff.1 h
  have := encRs_len l h3
  have := five_len kd p e s (l.length : Int)
  unfold encB
  rw [List.length_append]
  omega
theorem g_eq (l : List S31) (h : ∀ x ∈ l, mayR x = true) : batch_Encode.g l = some (l.flatMap encR) := by
  induction l with
  | nil => rfl
  | cons x r ih =>
    obtain ⟨h0, h1, h2⟩ := mayR_i64 (h x (List.mem_cons_self ..))
    rw [batch_Encode.g, put2 x h0 h1 (by omega), Option.bind_some, ih fun y hy => h y (List.mem_cons_of_mem _ hy), Option.bind_some, data_bs, List.flatMap_cons]
def encodeR (kd p e s : Int) (l : List S31) : ByteArray × Int := if mayB kd p e s l = true then (bs (encB kd p e s l), 0) else (bs [], 1)
theorem encode_eq (kd p e s : Int) (l : List S31) (hl : l.length ≤ 9223372036854775807) (k : Nat) (hk : l.length + 7 < k) : batch_Encode.f k kd p e s l = some (encodeR kd p e s l) := by
  unfold batch_Encode.f encodeR
  rw [check_eq kd p e s l hl k hk, Option.bind_some]
  by_cases h : mayB kd p e s l = true
  · obtain ⟨i1, i2, i3, i4, i5⟩ := mayB_i64 h
    obtain ⟨h1, h2, h3, h4⟩ := mayB_iff.1 h
    have hn := encB_len h
    unfold encB at hn
    rw [List.length_append] at hn
    rw [if_pos h, if_pos rfl, if_pos h, putAll_eq _ (by simp) (fun y hy => by
      rcases List.mem_cons.1 hy with rfl | hy; exact i1
      rcases List.mem_cons.1 hy with rfl | hy; exact i2
      rcases List.mem_cons.1 hy with rfl | hy; exact i3
      rcases List.mem_cons.1 hy with rfl | hy; exact i4
      rcases List.mem_cons.1 hy with rfl | hy; exact i5
      cases hy), Option.bind_some, g_eq l h3, Option.bind_some, if_pos (by rw [size_bs]; omega), data_bs]
    rfl
  · rw [if_neg h, if_neg (by decide), if_neg h]
    rfl
theorem rencode_l0 (kd p e s : Int) (l : List S31) (hl : l.length ≤ 64) (hm : ∀ x ∈ l, mayR x = true) (d : Nat) : ∀ (j k : Nat) (acc : List UInt8), l.length - j = d → j ≤ l.length → d + 25 < k → acc.length + 542 * d ≤ 1000000 →
    headgateref06_Encode.l0 k (bs acc) (j : Int) kd p e s l = some (bs (acc ++ (l.drop j).flatMap encR), 0) := by
  induction d with
  | zero =>
    intro j k acc hd hj hk ha
    obtain ⟨k, rfl⟩ : ∃ m, k = m + 1 := ⟨k - 1, by omega⟩
    rw [headgateref06_Encode.l0, if_neg (by omega), List.drop_of_length_le (by omega), List.flatMap_nil, List.append_nil]
  | succ d ih =>
    intro j k acc hd hj hk ha
    obtain ⟨k, rfl⟩ : ∃ m, k = m + 1 := ⟨k - 1, by omega⟩
    have hjl : j < l.length := by omega
    have e1 : wrap64 ((j : Int) + 1) = ((j + 1 : Nat) : Int) := by rw [w64 (by omega) (by omega)]; omega
    obtain ⟨h0, h1, h2⟩ := mayR_i64 (hm l[j] (List.getElem_mem hjl))
    have hx := encR_len l[j]
    rw [headgateref06_Encode.l0, if_pos (by omega), if_pos (by omega), rd_at l j hjl, rrec2 _ h0 h1 (by omega) k (by omega), Option.bind_some, if_pos (by rw [size_bs, size_bs]; omega), append_bs, e1, ih (j + 1) k _ (by omega) (by omega) (by omega) (by rw [List.length_append]; omega), List.drop_eq_getElem_cons hjl, List.flatMap_cons, List.append_assoc]
theorem rencode_eq (kd p e s : Int) (l : List S31) (hl : l.length ≤ 9223372036854775807) (k : Nat) (hk : l.length + 100 < k) : headgateref06_Encode.f k kd p e s l = some (encodeR kd p e s l) := by
  unfold headgateref06_Encode.f encodeR
  rw [rMay_eq kd p e s l hl k (by omega), Option.bind_some]
  by_cases h : mayB kd p e s l = true
  · obtain ⟨i1, i2, i3, i4, i5⟩ := mayB_i64 h
    obtain ⟨h1, h2, h3, h4⟩ := mayB_iff.1 h
    have n1 := (enc_len kd).2
    have n2 := (enc_len p).2
    have n3 := (enc_len e).2
    have n4 := (enc_len s).2
    have n5 := (enc_len (l.length : Int)).2
    rw [if_pos h, if_pos h, put_f _ i1 k (by omega), Option.bind_some, put_f _ i2 k (by omega), Option.bind_some, if_pos (by rw [size_bs, size_bs]; omega), append_bs, put_f _ i3 k (by omega), Option.bind_some, if_pos (by rw [size_bs, size_bs, List.length_append]; omega), append_bs, put_f _ i4 k (by omega), Option.bind_some, if_pos (by rw [size_bs, size_bs, List.length_append, List.length_append]; omega), append_bs, put_f _ i5 k (by omega), Option.bind_some, if_pos (by rw [size_bs, size_bs, List.length_append, List.length_append, List.length_append]; omega), append_bs]
    have := rencode_l0 kd p e s l h2 h3 l.length 0 k (enc kd ++ enc p ++ enc e ++ enc s ++ enc (l.length : Int)) (by omega) (by omega) (by omega) (by simp only [List.length_append]; omega)
    refine this.trans ?_
    unfold encB
    simp only [List.flatMap_cons, List.flatMap_nil, List.append_nil, List.append_assoc, List.drop_zero]
  · rw [if_neg h, if_neg h]
    rfl
theorem awake_eq (k : Nat) (hk : 20 < k) : headgatelaw06_awake.f k = some true := by
  unfold headgatelaw06_awake.f
  rw [encode_eq 3 1 2 0 [] (by decide) k (by simp; omega), Option.bind_some, encode_eq 1 0 0 0 _ (by decide) k (by simp; omega), Option.bind_some]
  have e1 : encodeR 3 1 2 0 [] = (bs [6, 2, 4, 0, 0], 0) := by decide
  have e2 : encodeR 1 0 0 0 [(⟨1, 2, (⟨#[97]⟩ : ByteArray)⟩ : S31)] = (bs [2, 0, 0, 0, 2, 2, 4, 2, 97], 0) := by
    have hm : mayB 1 0 0 0 [(⟨1, 2, (⟨#[97]⟩ : ByteArray)⟩ : S31)] = true := by decide
    unfold encodeR
    rw [if_pos hm]
    refine Prod.ext (bs_inj.2 ?_) rfl
    decide
  rw [e1, e2, if_pos (toList_bs _), if_pos rfl, if_pos (toList_bs _)]
  rfl
end Go.Proofs.Ythmckblcckcaaaa.Be
