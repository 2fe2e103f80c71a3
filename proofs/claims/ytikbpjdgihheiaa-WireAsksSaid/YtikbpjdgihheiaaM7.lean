-- Written by wip/mk.py of this repo: the kit's print program, with contracts of our own among its functions (merge.py: Px8).
import Derived.Test.YtikbpjdgihheiaaM0
import Derived.Test.YtikbpjdgihheiaaM1
import Derived.Test.YtikbpjdgihheiaaM6
section
namespace Go.Proofs.Ytikbpjdgihheiaa.P
open Go.RowKit Go.Proofs.YtikbpjdgihheiaaW.PrintWords Go.Proofs.YtikbpjdgihheiaaW.PrintLast Go.Proofs.YtikbpjdgihheiaaW.PrintMore
attribute [local go_sem] max2_int min2_int max_two min_two max_three min_three max_four min_four   -- for this text's walks alone
attribute [local go_sem ↓] Kp.LDAsk_in
attribute [local go_sem] Kp.LDAsk_run
set_option linter.unusedVariables false
set_option linter.unusedSimpArgs false

/-! ### wire_EncodeReply: function 10 -/
theorem wire_EncodeReply.new1 (W : World) (a b : Obj) : ((W.alloc a).alloc b).heap[W.heap.size + 1]? = some b := by simpa using blk_new (W.alloc a) b
theorem wire_EncodeReply.new2 (W : World) (b : Obj) (n : Nat) (h : W.heap.size = n) : (W.alloc b).heap[n]? = some b := h ▸ blk_new W b
theorem wire_EncodeReply.new_ints {W : World} {g : Nat} (xs : List Int) (cs : Array Value) (t : TypeId) (hl : xs.length ≤ 9223372036854775807) (hb : W.heap[g]? = some (.cells cs t (0, 0))) (hcs : cs = (xs.map fun n => Value.int .i64 n).toArray) : Kd.C (Kd.int .i64) W (some ⟨g, 0, none⟩) xs.length xs := by
  subst hcs
  refine ⟨rfl, hl, fun _ => ⟨_, rfl, fun j p hp => ⟨[.int .i64 p], rfl, rfl, fun i u hu => ?_⟩⟩⟩
  have hi : i < 1 := by
    rcases Nat.lt_or_ge i 1 with h | h
    · exact h
    · rw [List.getElem?_eq_none (by simpa using h)] at hu; cases hu
  obtain rfl : i = 0 := by omega
  obtain rfl : Value.int .i64 p = u := by simpa using hu
  have := blk_cell hb j
  have e : ((⟨g, 0, none⟩ : Addr).add (j * (Kd.int .i64).sz + 0)) = ⟨g, j, none⟩ := by
    show (⟨g, 0, none⟩ : Addr).add (j * 1 + 0) = _
    unfold Addr.add
    by_cases hj : j = 0 <;> simp [hj]
  rw [e, this]
  simp [hp]
/-- The records' bytes, one behind the other; 'some none': one of them is refused. -/
def wire_EncodeReply.g (k : Nat) : List S59 → Option (Option (List UInt8))
  | [] => some (some [])
  | x :: r => (batch_PutRecord.f x.f1.f0 x.f1.f1 x.f1.f2).bind fun t => (batch_TakeRecord.f k t).bind fun q => if q.2.2.2.2 = 0 then ((wire_within.f [x.f0]).bind fun b => if b = true then ((varint_Put.f x.f0).bind fun y => if y.size + t.size ≤ 1000000 then ((wire_EncodeReply.g k r).bind fun u => some (u.map fun u => (y.data.toList ++ t.data.toList) ++ u)) else none) else some none) else some none
def wire_EncodeReply.f (k : Nat) (a0_0 : Int) (a0_1 : Int) (a0_2 : Int) (a0_3 : Int) (l0_4 : List Int) (l0_5 : List S59) : Option (ByteArray × Int) :=
  (wire_within.f [a0_0, a0_2, a0_3]).bind fun b1 => if b1 = true then (if a0_1 < 0 then some ((⟨#[]⟩ : ByteArray), 1) else if 255 < a0_1 then some ((⟨#[]⟩ : ByteArray), 1) else if 64 < l0_4.length then some ((⟨#[]⟩ : ByteArray), 1) else (wire_within.f l0_4).bind fun b2 => if b2 = true then (if 2048 < l0_5.length then some ((⟨#[]⟩ : ByteArray), 1) else
    (varint_PutAll.f [a0_0, a0_1, a0_2, a0_3, (l0_4.length : Int)]).bind fun h1 => (varint_PutAll.f l0_4).bind fun h2 => (varint_Put.f (l0_5.length : Int)).bind fun h3 => if h1.size + h2.size + h3.size ≤ 1000000 then ((wire_EncodeReply.g k l0_5).bind fun o => match o with | none => some ((⟨#[]⟩ : ByteArray), 1) | some u => some (Vm.bs (((h1.data.toList ++ h2.data.toList) ++ h3.data.toList) ++ u), 0)) else none) else some ((⟨#[]⟩ : ByteArray), 1)) else some ((⟨#[]⟩ : ByteArray), 1)
theorem wire_EncodeReply.mono_g (k : Nat) : ∀ l, LeO (wire_EncodeReply.g k l) (wire_EncodeReply.g (k + 1) l) := by
  intro l
  induction l with
  | nil => exact LeO.refl _
  | cons x r ih =>
    unfold wire_EncodeReply.g
    refine LeO.bind (LeO.refl _) fun t => LeO.bind (batch_TakeRecord.mono _ _) fun q => ?_
    split
    · refine LeO.bind (LeO.refl _) fun b => ?_
      split
      · refine LeO.bind (LeO.refl _) fun y => ?_
        split
        · exact LeO.bind ih fun _ => LeO.refl _
        · exact LeO.refl _
      · exact LeO.refl _
    · exact LeO.refl _
theorem wire_EncodeReply.mono : ∀ a0 a1 a2 a3 a4 a5 k, LeO (wire_EncodeReply.f k a0 a1 a2 a3 a4 a5) (wire_EncodeReply.f (k + 1) a0 a1 a2 a3 a4 a5) := by
  intro a0 a1 a2 a3 a4 a5 k
  unfold wire_EncodeReply.f
  refine LeO.bind (LeO.refl _) fun b1 => ?_
  split
  · split
    · exact LeO.refl _
    split
    · exact LeO.refl _
    split
    · exact LeO.refl _
    refine LeO.bind (LeO.refl _) fun b2 => ?_
    split
    · split
      · exact LeO.refl _
      refine LeO.bind (LeO.refl _) fun h1 => LeO.bind (LeO.refl _) fun h2 => LeO.bind (LeO.refl _) fun h3 => ?_
      split
      · exact LeO.bind (wire_EncodeReply.mono_g _ _) fun _ => LeO.refl _
      · exact LeO.refl _
    · exact LeO.refl _
  · exact LeO.refl _
/-- What one round writes, or that it refuses. -/
theorem wire_EncodeReply.g_step (k : Nat) (x : S59) (r : List S59) (v : Option (List UInt8)) (h : wire_EncodeReply.g k (x :: r) = some v) :
    ∃ t q1 q2 q3 q4 q5, batch_PutRecord.f x.f1.f0 x.f1.f1 x.f1.f2 = some t ∧ batch_TakeRecord.f k t = some (q1, q2, q3, q4, q5) ∧ ((q5 ≠ 0 ∧ v = none) ∨ (q5 = 0 ∧ ((wire_within.f [x.f0] = some false ∧ v = none) ∨ (wire_within.f [x.f0] = some true ∧ ∃ y u, varint_Put.f x.f0 = some y ∧ y.size + t.size ≤ 1000000 ∧ wire_EncodeReply.g k r = some u ∧ v = u.map fun u => (y.data.toList ++ t.data.toList) ++ u)))) := by
  unfold wire_EncodeReply.g at h
  obtain ⟨t, ht, h⟩ := Option.bind_eq_some_iff.mp h
  obtain ⟨⟨q1, q2, q3, q4, q5⟩, hq, h⟩ := Option.bind_eq_some_iff.mp h
  refine ⟨t, q1, q2, q3, q4, q5, ht, hq, ?_⟩
  dsimp only at h
  by_cases c : q5 = 0
  · rw [if_pos c] at h
    refine .inr ⟨c, ?_⟩
    obtain ⟨b, hb, h⟩ := Option.bind_eq_some_iff.mp h
    cases b with
    | false => exact .inl ⟨hb, (Option.some.inj (by simpa using h)).symm⟩
    | true =>
      rw [if_pos rfl] at h
      obtain ⟨y, hy, h⟩ := Option.bind_eq_some_iff.mp h
      by_cases cs : y.size + t.size ≤ 1000000
      · rw [if_pos cs] at h
        obtain ⟨u, hu, h⟩ := Option.bind_eq_some_iff.mp h
        exact .inr ⟨hb, y, u, hy, cs, hu, (Option.some.inj h).symm⟩
      · rw [if_neg cs] at h
        cases h
  · rw [if_neg c] at h
    exact .inl ⟨c, (Option.some.inj h).symm⟩
set_option maxHeartbeats 8000000 in
set_option maxRecDepth 100000 in
theorem wire_EncodeReply.calls (k : Nat) (a0_0 : Int) (a0_1 : Int) (a0_2 : Int) (a0_3 : Int) (A0_4 : Option Addr) (c0_4 : Nat) (l0_4 : List Int) (A0_5 : Option Addr) (c0_5 : Nat) (l0_5 : List S59) (r1 : ByteArray) (r2 : Int) (w : World) (hr0_4 : Kd.C (Kd.int .i64) w A0_4 l0_4.length l0_4) (hc0_4 : l0_4.length ≤ c0_4) (hr0_5 : Kd.C k59 w A0_5 l0_5.length l0_5) (hc0_5 : l0_5.length ≤ c0_5) (h : wire_EncodeReply.f k a0_0 a0_1 a0_2 a0_3 l0_4 l0_5 = some (r1, r2)) :
    Calls Try.prog 10 #[.agg #[.int .i64 a0_0, .int .i64 a0_1, .int .i64 a0_2, .int .i64 a0_3, .slice A0_4 l0_4.length c0_4, .slice A0_5 l0_5.length c0_5]] w fun e w' => e = .returned (.tuple #[.string r1, .int .i64 r2]) ∧ Below w.heap.size w w' := by
  have huB := Try.underlying26
  have huG := Try.underlying59
  have huR := Try.underlying57
  have HR4 := Aside0.mk hr0_4
  have HC4 := Aside0.mk hc0_4
  have HR5 := Aside0.mk hr0_5
  have HC5 := Aside0.mk hc0_5
  have HB0 := Aside0.mk (Below.refl w.heap.size w)
  have hl4 := hr0_4.2.1
  have hl5 := hr0_5.2.1
  clear hr0_4 hc0_4 hr0_5 hc0_5
  obtain ⟨b1, hb1, h⟩ := Option.bind_eq_some_iff.mp h
  have A1 := Aside0.mk hb1
  clear hb1
  cases b1 with
  | false =>
    rw [if_neg (by decide)] at h
    have HE1 := Aside0.mk (Prod.mk.inj (Option.some.inj h)).1
    have HE2 := Aside0.mk (Prod.mk.inj (Option.some.inj h)).2
    clear h
    go_enter Try.func10, Try.ntmps10
    go_wp2_with (first | ((with_reducible refine gate_dst (N := 1) rfl ?_); refine box_event ?hg (N := 1) ?hd (cs := #[.int .i64 a0_0, .int .i64 a0_1, .int .i64 a0_2, .int .i64 a0_3, .slice A0_4 l0_4.length c0_4, .slice A0_5 l0_5.length c0_5]) (t := 26) ?hr ?_; (case hd => rfl); (case hg => rfl); (case hr => first | (go_simp; done) | (go_simp; rfl)); intro gb hg w1 hbox hb; have HB1 := Aside0.mk (below_step HB0.out hb); have BK := Aside0.mk hbox; have GW : w.heap.size ≤ gb := (by rw [hg]; exact Nat.le_refl _); clear hb hbox hg; have hc0 : w1.cell? ⟨gb, 0, none⟩ = some (.int .i64 a0_0) := (blk_cell BK.out 0).trans rfl; have hc1 : w1.cell? ⟨gb, 1, none⟩ = some (.int .i64 a0_1) := (blk_cell BK.out 1).trans rfl; have hc2 : w1.cell? ⟨gb, 2, none⟩ = some (.int .i64 a0_2) := (blk_cell BK.out 2).trans rfl; have hc3 : w1.cell? ⟨gb, 3, none⟩ = some (.int .i64 a0_3) := (blk_cell BK.out 3).trans rfl; have hc4 : w1.cell? ⟨gb, 4, none⟩ = some (.slice A0_4 l0_4.length c0_4) := (blk_cell BK.out 4).trans rfl; have hc5 : w1.cell? ⟨gb, 5, none⟩ = some (.slice A0_5 l0_5.length c0_5) := (blk_cell BK.out 5).trans rfl))
    refine (wire_within.calls _ 3 [a0_0, a0_2, a0_3] _ _ (wire_EncodeReply.new_ints [a0_0, a0_2, a0_3] _ 3 (by simp) (by first | exact blk_new _ _ | exact wire_EncodeReply.new1 _ _ _ | exact wire_EncodeReply.new2 _ _ _ (by simp) | simpa using blk_new _ _) rfl) (by simp) A1.out).mono ?_
    rintro e w2 ⟨rfl, hd⟩
    have HB2 := Aside0.mk (below_step (below_alloc HB1.out _) hd.below)
    have BK2 := Aside0.mk (blk_below (blk_alloc BK.out _) hd.below)
    clear hc0 hc1 hc2 hc3 hc4 hc5 BK HB1 hd
    have hc0 : w2.cell? ⟨gb, 0, none⟩ = some (.int .i64 a0_0) := (blk_cell BK2.out 0).trans rfl
    have hc1 : w2.cell? ⟨gb, 1, none⟩ = some (.int .i64 a0_1) := (blk_cell BK2.out 1).trans rfl
    have hc2 : w2.cell? ⟨gb, 2, none⟩ = some (.int .i64 a0_2) := (blk_cell BK2.out 2).trans rfl
    have hc3 : w2.cell? ⟨gb, 3, none⟩ = some (.int .i64 a0_3) := (blk_cell BK2.out 3).trans rfl
    have hc4 : w2.cell? ⟨gb, 4, none⟩ = some (.slice A0_4 l0_4.length c0_4) := (blk_cell BK2.out 4).trans rfl
    have hc5 : w2.cell? ⟨gb, 5, none⟩ = some (.slice A0_5 l0_5.length c0_5) := (blk_cell BK2.out 5).trans rfl
    go_wp2
    go_ret2
    refine ⟨?_, HB2.out⟩
    rw [← HE1.out, ← HE2.out]
    rfl
  | true =>
  rw [if_pos rfl] at h
  by_cases c1 : a0_1 < 0
  case pos =>
    rw [if_pos c1] at h
    have HE1 := Aside0.mk (Prod.mk.inj (Option.some.inj h)).1
    have HE2 := Aside0.mk (Prod.mk.inj (Option.some.inj h)).2
    clear h
    have c1b : decide (a0_1 < 0) = true := decide_eq_true c1
    go_enter Try.func10, Try.ntmps10
    go_wp2_with (first | ((with_reducible refine gate_dst (N := 1) rfl ?_); refine box_event ?hg (N := 1) ?hd (cs := #[.int .i64 a0_0, .int .i64 a0_1, .int .i64 a0_2, .int .i64 a0_3, .slice A0_4 l0_4.length c0_4, .slice A0_5 l0_5.length c0_5]) (t := 26) ?hr ?_; (case hd => rfl); (case hg => rfl); (case hr => first | (go_simp; done) | (go_simp; rfl)); intro gb hg w1 hbox hb; have HB1 := Aside0.mk (below_step HB0.out hb); have BK := Aside0.mk hbox; have GW : w.heap.size ≤ gb := (by rw [hg]; exact Nat.le_refl _); clear hb hbox hg; have hc0 : w1.cell? ⟨gb, 0, none⟩ = some (.int .i64 a0_0) := (blk_cell BK.out 0).trans rfl; have hc1 : w1.cell? ⟨gb, 1, none⟩ = some (.int .i64 a0_1) := (blk_cell BK.out 1).trans rfl; have hc2 : w1.cell? ⟨gb, 2, none⟩ = some (.int .i64 a0_2) := (blk_cell BK.out 2).trans rfl; have hc3 : w1.cell? ⟨gb, 3, none⟩ = some (.int .i64 a0_3) := (blk_cell BK.out 3).trans rfl; have hc4 : w1.cell? ⟨gb, 4, none⟩ = some (.slice A0_4 l0_4.length c0_4) := (blk_cell BK.out 4).trans rfl; have hc5 : w1.cell? ⟨gb, 5, none⟩ = some (.slice A0_5 l0_5.length c0_5) := (blk_cell BK.out 5).trans rfl))
    refine (wire_within.calls _ 3 [a0_0, a0_2, a0_3] _ _ (wire_EncodeReply.new_ints [a0_0, a0_2, a0_3] _ 3 (by simp) (by first | exact blk_new _ _ | exact wire_EncodeReply.new1 _ _ _ | exact wire_EncodeReply.new2 _ _ _ (by simp) | simpa using blk_new _ _) rfl) (by simp) A1.out).mono ?_
    rintro e w2 ⟨rfl, hd⟩
    have HB2 := Aside0.mk (below_step (below_alloc HB1.out _) hd.below)
    have BK2 := Aside0.mk (blk_below (blk_alloc BK.out _) hd.below)
    clear hc0 hc1 hc2 hc3 hc4 hc5 BK HB1 hd
    have hc0 : w2.cell? ⟨gb, 0, none⟩ = some (.int .i64 a0_0) := (blk_cell BK2.out 0).trans rfl
    have hc1 : w2.cell? ⟨gb, 1, none⟩ = some (.int .i64 a0_1) := (blk_cell BK2.out 1).trans rfl
    have hc2 : w2.cell? ⟨gb, 2, none⟩ = some (.int .i64 a0_2) := (blk_cell BK2.out 2).trans rfl
    have hc3 : w2.cell? ⟨gb, 3, none⟩ = some (.int .i64 a0_3) := (blk_cell BK2.out 3).trans rfl
    have hc4 : w2.cell? ⟨gb, 4, none⟩ = some (.slice A0_4 l0_4.length c0_4) := (blk_cell BK2.out 4).trans rfl
    have hc5 : w2.cell? ⟨gb, 5, none⟩ = some (.slice A0_5 l0_5.length c0_5) := (blk_cell BK2.out 5).trans rfl
    go_wp2
    go_ret2
    refine ⟨?_, HB2.out⟩
    rw [← HE1.out, ← HE2.out]
    rfl
  rw [if_neg c1] at h
  have c1b : decide (a0_1 < 0) = false := decide_eq_false c1
  by_cases c2 : 255 < a0_1
  case pos =>
    rw [if_pos c2] at h
    have HE1 := Aside0.mk (Prod.mk.inj (Option.some.inj h)).1
    have HE2 := Aside0.mk (Prod.mk.inj (Option.some.inj h)).2
    clear h
    have c2b : decide (255 < a0_1) = true := decide_eq_true c2
    go_enter Try.func10, Try.ntmps10
    go_wp2_with (first | ((with_reducible refine gate_dst (N := 1) rfl ?_); refine box_event ?hg (N := 1) ?hd (cs := #[.int .i64 a0_0, .int .i64 a0_1, .int .i64 a0_2, .int .i64 a0_3, .slice A0_4 l0_4.length c0_4, .slice A0_5 l0_5.length c0_5]) (t := 26) ?hr ?_; (case hd => rfl); (case hg => rfl); (case hr => first | (go_simp; done) | (go_simp; rfl)); intro gb hg w1 hbox hb; have HB1 := Aside0.mk (below_step HB0.out hb); have BK := Aside0.mk hbox; have GW : w.heap.size ≤ gb := (by rw [hg]; exact Nat.le_refl _); clear hb hbox hg; have hc0 : w1.cell? ⟨gb, 0, none⟩ = some (.int .i64 a0_0) := (blk_cell BK.out 0).trans rfl; have hc1 : w1.cell? ⟨gb, 1, none⟩ = some (.int .i64 a0_1) := (blk_cell BK.out 1).trans rfl; have hc2 : w1.cell? ⟨gb, 2, none⟩ = some (.int .i64 a0_2) := (blk_cell BK.out 2).trans rfl; have hc3 : w1.cell? ⟨gb, 3, none⟩ = some (.int .i64 a0_3) := (blk_cell BK.out 3).trans rfl; have hc4 : w1.cell? ⟨gb, 4, none⟩ = some (.slice A0_4 l0_4.length c0_4) := (blk_cell BK.out 4).trans rfl; have hc5 : w1.cell? ⟨gb, 5, none⟩ = some (.slice A0_5 l0_5.length c0_5) := (blk_cell BK.out 5).trans rfl))
    refine (wire_within.calls _ 3 [a0_0, a0_2, a0_3] _ _ (wire_EncodeReply.new_ints [a0_0, a0_2, a0_3] _ 3 (by simp) (by first | exact blk_new _ _ | exact wire_EncodeReply.new1 _ _ _ | exact wire_EncodeReply.new2 _ _ _ (by simp) | simpa using blk_new _ _) rfl) (by simp) A1.out).mono ?_
    rintro e w2 ⟨rfl, hd⟩
    have HB2 := Aside0.mk (below_step (below_alloc HB1.out _) hd.below)
    have BK2 := Aside0.mk (blk_below (blk_alloc BK.out _) hd.below)
    clear hc0 hc1 hc2 hc3 hc4 hc5 BK HB1 hd
    have hc0 : w2.cell? ⟨gb, 0, none⟩ = some (.int .i64 a0_0) := (blk_cell BK2.out 0).trans rfl
    have hc1 : w2.cell? ⟨gb, 1, none⟩ = some (.int .i64 a0_1) := (blk_cell BK2.out 1).trans rfl
    have hc2 : w2.cell? ⟨gb, 2, none⟩ = some (.int .i64 a0_2) := (blk_cell BK2.out 2).trans rfl
    have hc3 : w2.cell? ⟨gb, 3, none⟩ = some (.int .i64 a0_3) := (blk_cell BK2.out 3).trans rfl
    have hc4 : w2.cell? ⟨gb, 4, none⟩ = some (.slice A0_4 l0_4.length c0_4) := (blk_cell BK2.out 4).trans rfl
    have hc5 : w2.cell? ⟨gb, 5, none⟩ = some (.slice A0_5 l0_5.length c0_5) := (blk_cell BK2.out 5).trans rfl
    go_wp2
    go_ret2
    refine ⟨?_, HB2.out⟩
    rw [← HE1.out, ← HE2.out]
    rfl
  rw [if_neg c2] at h
  have c2b : decide (255 < a0_1) = false := decide_eq_false c2
  by_cases c3 : 64 < l0_4.length
  case pos =>
    rw [if_pos c3] at h
    have HE1 := Aside0.mk (Prod.mk.inj (Option.some.inj h)).1
    have HE2 := Aside0.mk (Prod.mk.inj (Option.some.inj h)).2
    clear h
    have c3b : decide ((64 : Int) < (l0_4.length : Int)) = true := decide_eq_true (by omega)
    have c3p : (64 : Int) < (l0_4.length : Int) := by omega
    go_enter Try.func10, Try.ntmps10
    go_wp2_with (first | ((with_reducible refine gate_dst (N := 1) rfl ?_); refine box_event ?hg (N := 1) ?hd (cs := #[.int .i64 a0_0, .int .i64 a0_1, .int .i64 a0_2, .int .i64 a0_3, .slice A0_4 l0_4.length c0_4, .slice A0_5 l0_5.length c0_5]) (t := 26) ?hr ?_; (case hd => rfl); (case hg => rfl); (case hr => first | (go_simp; done) | (go_simp; rfl)); intro gb hg w1 hbox hb; have HB1 := Aside0.mk (below_step HB0.out hb); have BK := Aside0.mk hbox; have GW : w.heap.size ≤ gb := (by rw [hg]; exact Nat.le_refl _); clear hb hbox hg; have hc0 : w1.cell? ⟨gb, 0, none⟩ = some (.int .i64 a0_0) := (blk_cell BK.out 0).trans rfl; have hc1 : w1.cell? ⟨gb, 1, none⟩ = some (.int .i64 a0_1) := (blk_cell BK.out 1).trans rfl; have hc2 : w1.cell? ⟨gb, 2, none⟩ = some (.int .i64 a0_2) := (blk_cell BK.out 2).trans rfl; have hc3 : w1.cell? ⟨gb, 3, none⟩ = some (.int .i64 a0_3) := (blk_cell BK.out 3).trans rfl; have hc4 : w1.cell? ⟨gb, 4, none⟩ = some (.slice A0_4 l0_4.length c0_4) := (blk_cell BK.out 4).trans rfl; have hc5 : w1.cell? ⟨gb, 5, none⟩ = some (.slice A0_5 l0_5.length c0_5) := (blk_cell BK.out 5).trans rfl))
    refine (wire_within.calls _ 3 [a0_0, a0_2, a0_3] _ _ (wire_EncodeReply.new_ints [a0_0, a0_2, a0_3] _ 3 (by simp) (by first | exact blk_new _ _ | exact wire_EncodeReply.new1 _ _ _ | exact wire_EncodeReply.new2 _ _ _ (by simp) | simpa using blk_new _ _) rfl) (by simp) A1.out).mono ?_
    rintro e w2 ⟨rfl, hd⟩
    have HB2 := Aside0.mk (below_step (below_alloc HB1.out _) hd.below)
    have BK2 := Aside0.mk (blk_below (blk_alloc BK.out _) hd.below)
    clear hc0 hc1 hc2 hc3 hc4 hc5 BK HB1 hd
    have hc0 : w2.cell? ⟨gb, 0, none⟩ = some (.int .i64 a0_0) := (blk_cell BK2.out 0).trans rfl
    have hc1 : w2.cell? ⟨gb, 1, none⟩ = some (.int .i64 a0_1) := (blk_cell BK2.out 1).trans rfl
    have hc2 : w2.cell? ⟨gb, 2, none⟩ = some (.int .i64 a0_2) := (blk_cell BK2.out 2).trans rfl
    have hc3 : w2.cell? ⟨gb, 3, none⟩ = some (.int .i64 a0_3) := (blk_cell BK2.out 3).trans rfl
    have hc4 : w2.cell? ⟨gb, 4, none⟩ = some (.slice A0_4 l0_4.length c0_4) := (blk_cell BK2.out 4).trans rfl
    have hc5 : w2.cell? ⟨gb, 5, none⟩ = some (.slice A0_5 l0_5.length c0_5) := (blk_cell BK2.out 5).trans rfl
    go_wp2
    go_ret2
    refine ⟨?_, HB2.out⟩
    rw [← HE1.out, ← HE2.out]
    rfl
  rw [if_neg c3] at h
  have c3b : decide ((64 : Int) < (l0_4.length : Int)) = false := decide_eq_false (by omega)
  have c3p : ¬ (64 : Int) < (l0_4.length : Int) := by omega
  obtain ⟨b2, hb2, h⟩ := Option.bind_eq_some_iff.mp h
  have A2 := Aside0.mk hb2
  clear hb2
  cases b2 with
  | false =>
    rw [if_neg (by decide)] at h
    have HE1 := Aside0.mk (Prod.mk.inj (Option.some.inj h)).1
    have HE2 := Aside0.mk (Prod.mk.inj (Option.some.inj h)).2
    clear h
    go_enter Try.func10, Try.ntmps10
    go_wp2_with (first | ((with_reducible refine gate_dst (N := 1) rfl ?_); refine box_event ?hg (N := 1) ?hd (cs := #[.int .i64 a0_0, .int .i64 a0_1, .int .i64 a0_2, .int .i64 a0_3, .slice A0_4 l0_4.length c0_4, .slice A0_5 l0_5.length c0_5]) (t := 26) ?hr ?_; (case hd => rfl); (case hg => rfl); (case hr => first | (go_simp; done) | (go_simp; rfl)); intro gb hg w1 hbox hb; have HB1 := Aside0.mk (below_step HB0.out hb); have BK := Aside0.mk hbox; have GW : w.heap.size ≤ gb := (by rw [hg]; exact Nat.le_refl _); clear hb hbox hg; have hc0 : w1.cell? ⟨gb, 0, none⟩ = some (.int .i64 a0_0) := (blk_cell BK.out 0).trans rfl; have hc1 : w1.cell? ⟨gb, 1, none⟩ = some (.int .i64 a0_1) := (blk_cell BK.out 1).trans rfl; have hc2 : w1.cell? ⟨gb, 2, none⟩ = some (.int .i64 a0_2) := (blk_cell BK.out 2).trans rfl; have hc3 : w1.cell? ⟨gb, 3, none⟩ = some (.int .i64 a0_3) := (blk_cell BK.out 3).trans rfl; have hc4 : w1.cell? ⟨gb, 4, none⟩ = some (.slice A0_4 l0_4.length c0_4) := (blk_cell BK.out 4).trans rfl; have hc5 : w1.cell? ⟨gb, 5, none⟩ = some (.slice A0_5 l0_5.length c0_5) := (blk_cell BK.out 5).trans rfl))
    refine (wire_within.calls _ 3 [a0_0, a0_2, a0_3] _ _ (wire_EncodeReply.new_ints [a0_0, a0_2, a0_3] _ 3 (by simp) (by first | exact blk_new _ _ | exact wire_EncodeReply.new1 _ _ _ | exact wire_EncodeReply.new2 _ _ _ (by simp) | simpa using blk_new _ _) rfl) (by simp) A1.out).mono ?_
    rintro e w2 ⟨rfl, hd⟩
    have HB2 := Aside0.mk (below_step (below_alloc HB1.out _) hd.below)
    have BK2 := Aside0.mk (blk_below (blk_alloc BK.out _) hd.below)
    clear hc0 hc1 hc2 hc3 hc4 hc5 BK HB1 hd
    have hc0 : w2.cell? ⟨gb, 0, none⟩ = some (.int .i64 a0_0) := (blk_cell BK2.out 0).trans rfl
    have hc1 : w2.cell? ⟨gb, 1, none⟩ = some (.int .i64 a0_1) := (blk_cell BK2.out 1).trans rfl
    have hc2 : w2.cell? ⟨gb, 2, none⟩ = some (.int .i64 a0_2) := (blk_cell BK2.out 2).trans rfl
    have hc3 : w2.cell? ⟨gb, 3, none⟩ = some (.int .i64 a0_3) := (blk_cell BK2.out 3).trans rfl
    have hc4 : w2.cell? ⟨gb, 4, none⟩ = some (.slice A0_4 l0_4.length c0_4) := (blk_cell BK2.out 4).trans rfl
    have hc5 : w2.cell? ⟨gb, 5, none⟩ = some (.slice A0_5 l0_5.length c0_5) := (blk_cell BK2.out 5).trans rfl
    go_wp2_with (go_at_call 21; refine (wire_within.calls _ _ l0_4 _ _ (Kd.C_below HR4.out HB2.out) HC4.out A2.out).mono ?_)
    rintro e w3 ⟨rfl, hd⟩
    have HB3 := Aside0.mk (below_step HB2.out hd.below)
    have BK3 := Aside0.mk (blk_below BK2.out hd.below)
    clear hc0 hc1 hc2 hc3 hc4 hc5 BK2 HB2 hd
    have hc0 : w3.cell? ⟨gb, 0, none⟩ = some (.int .i64 a0_0) := (blk_cell BK3.out 0).trans rfl
    have hc1 : w3.cell? ⟨gb, 1, none⟩ = some (.int .i64 a0_1) := (blk_cell BK3.out 1).trans rfl
    have hc2 : w3.cell? ⟨gb, 2, none⟩ = some (.int .i64 a0_2) := (blk_cell BK3.out 2).trans rfl
    have hc3 : w3.cell? ⟨gb, 3, none⟩ = some (.int .i64 a0_3) := (blk_cell BK3.out 3).trans rfl
    have hc4 : w3.cell? ⟨gb, 4, none⟩ = some (.slice A0_4 l0_4.length c0_4) := (blk_cell BK3.out 4).trans rfl
    have hc5 : w3.cell? ⟨gb, 5, none⟩ = some (.slice A0_5 l0_5.length c0_5) := (blk_cell BK3.out 5).trans rfl
    go_wp2
    go_ret2
    refine ⟨?_, HB3.out⟩
    rw [← HE1.out, ← HE2.out]
    rfl
  | true =>
  rw [if_pos rfl] at h
  by_cases c4 : 2048 < l0_5.length
  case pos =>
    rw [if_pos c4] at h
    have HE1 := Aside0.mk (Prod.mk.inj (Option.some.inj h)).1
    have HE2 := Aside0.mk (Prod.mk.inj (Option.some.inj h)).2
    clear h
    have c4p : (2048 : Int) < (l0_5.length : Int) := by omega
    have c4b : decide ((2048 : Int) < (l0_5.length : Int)) = true := decide_eq_true c4p
    go_enter Try.func10, Try.ntmps10
    go_wp2_with (first | ((with_reducible refine gate_dst (N := 1) rfl ?_); refine box_event ?hg (N := 1) ?hd (cs := #[.int .i64 a0_0, .int .i64 a0_1, .int .i64 a0_2, .int .i64 a0_3, .slice A0_4 l0_4.length c0_4, .slice A0_5 l0_5.length c0_5]) (t := 26) ?hr ?_; (case hd => rfl); (case hg => rfl); (case hr => first | (go_simp; done) | (go_simp; rfl)); intro gb hg w1 hbox hb; have HB1 := Aside0.mk (below_step HB0.out hb); have BK := Aside0.mk hbox; have GW : w.heap.size ≤ gb := (by rw [hg]; exact Nat.le_refl _); clear hb hbox hg; have hc0 : w1.cell? ⟨gb, 0, none⟩ = some (.int .i64 a0_0) := (blk_cell BK.out 0).trans rfl; have hc1 : w1.cell? ⟨gb, 1, none⟩ = some (.int .i64 a0_1) := (blk_cell BK.out 1).trans rfl; have hc2 : w1.cell? ⟨gb, 2, none⟩ = some (.int .i64 a0_2) := (blk_cell BK.out 2).trans rfl; have hc3 : w1.cell? ⟨gb, 3, none⟩ = some (.int .i64 a0_3) := (blk_cell BK.out 3).trans rfl; have hc4 : w1.cell? ⟨gb, 4, none⟩ = some (.slice A0_4 l0_4.length c0_4) := (blk_cell BK.out 4).trans rfl; have hc5 : w1.cell? ⟨gb, 5, none⟩ = some (.slice A0_5 l0_5.length c0_5) := (blk_cell BK.out 5).trans rfl))
    refine (wire_within.calls _ 3 [a0_0, a0_2, a0_3] _ _ (wire_EncodeReply.new_ints [a0_0, a0_2, a0_3] _ 3 (by simp) (by first | exact blk_new _ _ | exact wire_EncodeReply.new1 _ _ _ | exact wire_EncodeReply.new2 _ _ _ (by simp) | simpa using blk_new _ _) rfl) (by simp) A1.out).mono ?_
    rintro e w2 ⟨rfl, hd⟩
    have HB2 := Aside0.mk (below_step (below_alloc HB1.out _) hd.below)
    have BK2 := Aside0.mk (blk_below (blk_alloc BK.out _) hd.below)
    clear hc0 hc1 hc2 hc3 hc4 hc5 BK HB1 hd
    have hc0 : w2.cell? ⟨gb, 0, none⟩ = some (.int .i64 a0_0) := (blk_cell BK2.out 0).trans rfl
    have hc1 : w2.cell? ⟨gb, 1, none⟩ = some (.int .i64 a0_1) := (blk_cell BK2.out 1).trans rfl
    have hc2 : w2.cell? ⟨gb, 2, none⟩ = some (.int .i64 a0_2) := (blk_cell BK2.out 2).trans rfl
    have hc3 : w2.cell? ⟨gb, 3, none⟩ = some (.int .i64 a0_3) := (blk_cell BK2.out 3).trans rfl
    have hc4 : w2.cell? ⟨gb, 4, none⟩ = some (.slice A0_4 l0_4.length c0_4) := (blk_cell BK2.out 4).trans rfl
    have hc5 : w2.cell? ⟨gb, 5, none⟩ = some (.slice A0_5 l0_5.length c0_5) := (blk_cell BK2.out 5).trans rfl
    go_wp2_with (go_at_call 21; refine (wire_within.calls _ _ l0_4 _ _ (Kd.C_below HR4.out HB2.out) HC4.out A2.out).mono ?_)
    rintro e w3 ⟨rfl, hd⟩
    have HB3 := Aside0.mk (below_step HB2.out hd.below)
    have BK3 := Aside0.mk (blk_below BK2.out hd.below)
    clear hc0 hc1 hc2 hc3 hc4 hc5 BK2 HB2 hd
    have hc0 : w3.cell? ⟨gb, 0, none⟩ = some (.int .i64 a0_0) := (blk_cell BK3.out 0).trans rfl
    have hc1 : w3.cell? ⟨gb, 1, none⟩ = some (.int .i64 a0_1) := (blk_cell BK3.out 1).trans rfl
    have hc2 : w3.cell? ⟨gb, 2, none⟩ = some (.int .i64 a0_2) := (blk_cell BK3.out 2).trans rfl
    have hc3 : w3.cell? ⟨gb, 3, none⟩ = some (.int .i64 a0_3) := (blk_cell BK3.out 3).trans rfl
    have hc4 : w3.cell? ⟨gb, 4, none⟩ = some (.slice A0_4 l0_4.length c0_4) := (blk_cell BK3.out 4).trans rfl
    have hc5 : w3.cell? ⟨gb, 5, none⟩ = some (.slice A0_5 l0_5.length c0_5) := (blk_cell BK3.out 5).trans rfl
    go_wp2
    go_ret2
    refine ⟨?_, HB3.out⟩
    rw [← HE1.out, ← HE2.out]
    rfl
  rw [if_neg c4] at h
  have c4p : ¬ (2048 : Int) < (l0_5.length : Int) := by omega
  have c4b : decide ((2048 : Int) < (l0_5.length : Int)) = false := decide_eq_false c4p
  obtain ⟨h1, hh1, h⟩ := Option.bind_eq_some_iff.mp h
  obtain ⟨h2, hh2, h⟩ := Option.bind_eq_some_iff.mp h
  obtain ⟨h3, hh3, h⟩ := Option.bind_eq_some_iff.mp h
  have A3 := Aside0.mk hh1
  have A4 := Aside0.mk hh2
  have A5 := Aside0.mk hh3
  clear hh1 hh2 hh3
  by_cases hlen : h1.size + h2.size + h3.size ≤ 1000000
  case neg => rw [if_neg hlen] at h; cases h
  rw [if_pos hlen] at h
  obtain ⟨U, hU, h⟩ := Option.bind_eq_some_iff.mp h
  have HL := Aside0.mk hlen
  have A6 := Aside0.mk hU
  have HZ := Aside0.mk h
  clear hU h hlen
  go_enter Try.func10, Try.ntmps10
  go_wp2_with (first | ((with_reducible refine gate_dst (N := 1) rfl ?_); refine box_event ?hg (N := 1) ?hd (cs := #[.int .i64 a0_0, .int .i64 a0_1, .int .i64 a0_2, .int .i64 a0_3, .slice A0_4 l0_4.length c0_4, .slice A0_5 l0_5.length c0_5]) (t := 26) ?hr ?_; (case hd => rfl); (case hg => rfl); (case hr => first | (go_simp; done) | (go_simp; rfl)); intro gb hg w1 hbox hb; have HB1 := Aside0.mk (below_step HB0.out hb); have BK := Aside0.mk hbox; have GW : w.heap.size ≤ gb := (by rw [hg]; exact Nat.le_refl _); clear hb hbox hg; have hc0 : w1.cell? ⟨gb, 0, none⟩ = some (.int .i64 a0_0) := (blk_cell BK.out 0).trans rfl; have hc1 : w1.cell? ⟨gb, 1, none⟩ = some (.int .i64 a0_1) := (blk_cell BK.out 1).trans rfl; have hc2 : w1.cell? ⟨gb, 2, none⟩ = some (.int .i64 a0_2) := (blk_cell BK.out 2).trans rfl; have hc3 : w1.cell? ⟨gb, 3, none⟩ = some (.int .i64 a0_3) := (blk_cell BK.out 3).trans rfl; have hc4 : w1.cell? ⟨gb, 4, none⟩ = some (.slice A0_4 l0_4.length c0_4) := (blk_cell BK.out 4).trans rfl; have hc5 : w1.cell? ⟨gb, 5, none⟩ = some (.slice A0_5 l0_5.length c0_5) := (blk_cell BK.out 5).trans rfl))
  refine (wire_within.calls _ 3 [a0_0, a0_2, a0_3] _ _ (wire_EncodeReply.new_ints [a0_0, a0_2, a0_3] _ 3 (by simp) (by first | exact blk_new _ _ | exact wire_EncodeReply.new1 _ _ _ | exact wire_EncodeReply.new2 _ _ _ (by simp) | simpa using blk_new _ _) rfl) (by simp) A1.out).mono ?_
  rintro e w2 ⟨rfl, hd⟩
  have HB2 := Aside0.mk (below_step (below_alloc HB1.out _) hd.below)
  have BK2 := Aside0.mk (blk_below (blk_alloc BK.out _) hd.below)
  clear hc0 hc1 hc2 hc3 hc4 hc5 BK HB1 hd
  have hc0 : w2.cell? ⟨gb, 0, none⟩ = some (.int .i64 a0_0) := (blk_cell BK2.out 0).trans rfl
  have hc1 : w2.cell? ⟨gb, 1, none⟩ = some (.int .i64 a0_1) := (blk_cell BK2.out 1).trans rfl
  have hc2 : w2.cell? ⟨gb, 2, none⟩ = some (.int .i64 a0_2) := (blk_cell BK2.out 2).trans rfl
  have hc3 : w2.cell? ⟨gb, 3, none⟩ = some (.int .i64 a0_3) := (blk_cell BK2.out 3).trans rfl
  have hc4 : w2.cell? ⟨gb, 4, none⟩ = some (.slice A0_4 l0_4.length c0_4) := (blk_cell BK2.out 4).trans rfl
  have hc5 : w2.cell? ⟨gb, 5, none⟩ = some (.slice A0_5 l0_5.length c0_5) := (blk_cell BK2.out 5).trans rfl
  go_wp2_with (go_at_call 21; refine (wire_within.calls _ _ l0_4 _ _ (Kd.C_below HR4.out HB2.out) HC4.out A2.out).mono ?_)
  rintro e w3 ⟨rfl, hd⟩
  have HB3 := Aside0.mk (below_step HB2.out hd.below)
  have BK3 := Aside0.mk (blk_below BK2.out hd.below)
  clear hc0 hc1 hc2 hc3 hc4 hc5 BK2 HB2 hd
  have hc0 : w3.cell? ⟨gb, 0, none⟩ = some (.int .i64 a0_0) := (blk_cell BK3.out 0).trans rfl
  have hc1 : w3.cell? ⟨gb, 1, none⟩ = some (.int .i64 a0_1) := (blk_cell BK3.out 1).trans rfl
  have hc2 : w3.cell? ⟨gb, 2, none⟩ = some (.int .i64 a0_2) := (blk_cell BK3.out 2).trans rfl
  have hc3 : w3.cell? ⟨gb, 3, none⟩ = some (.int .i64 a0_3) := (blk_cell BK3.out 3).trans rfl
  have hc4 : w3.cell? ⟨gb, 4, none⟩ = some (.slice A0_4 l0_4.length c0_4) := (blk_cell BK3.out 4).trans rfl
  have hc5 : w3.cell? ⟨gb, 5, none⟩ = some (.slice A0_5 l0_5.length c0_5) := (blk_cell BK3.out 5).trans rfl
  have GB : gb < w3.heap.size := blk_lt BK3.out
  go_wp2_with (go_at_call 23; refine (varint_PutAll.calls _ 5 [a0_0, a0_1, a0_2, a0_3, (l0_4.length : Int)] h1 _ (wire_EncodeReply.new_ints [a0_0, a0_1, a0_2, a0_3, (l0_4.length : Int)] _ 3 (by simp) (by first | exact blk_new _ _ | exact wire_EncodeReply.new1 _ _ _ | exact wire_EncodeReply.new2 _ _ _ (by simp) | simpa using blk_new _ _) rfl) (by simp) A3.out).mono ?_)
  rintro e w4 ⟨rfl, hb⟩
  have HI4 := Aside0.mk (Bld.IsBuilder.below (Lib.fresh_isBuilder 64 5 w3) (below_step (below_alloc (Below.refl _ _) _) hb))
  have HX4 := Aside0.mk (below_step (below_alloc (below_alloc (Below.refl _ w3) _) _) hb)
  have hsz4 : w3.heap.size ≤ w4.heap.size := HX4.out.size
  clear hb hc0 hc1 hc2 hc3 hc4 hc5
  have HL4 := Aside0.mk (show ([] : List Value).length + h1.size ≤ 140737488355328 by have := HL.out; simp only [List.length_nil]; omega)
  go_wp2_with (go_at_call 22; refine (Bld.writeString w3.heap.size w3.heap.size [] h1 _ HI4.out HL4.out hsz4).mono ?_)
  rintro e w5 ⟨rfl, hi, hb⟩
  have HI5 : Aside0 (Lib.IsBuilder 64 5 w3.heap.size w3.heap.size (Lib.byteCells h1.data.toList) w5) := by
    have := hi
    rw [Bld.strCells_eq] at this
    exact ⟨.inr this⟩
  have HX5 := Aside0.mk (HX4.out.trans hb)
  have hc4 : w5.cell? ⟨gb, 4, none⟩ = some (.slice A0_4 l0_4.length c0_4) := (blk_cell ((HX5.out.block gb GB).trans BK3.out) 4).trans rfl
  clear hb hi HI4 HX4 hsz4 HL4
  go_wp2_with (go_at_call 23; refine (varint_PutAll.calls _ _ l0_4 h2 _ (Kd.C_below HR4.out (below_step HB3.out HX5.out)) HC4.out A4.out).mono ?_)
  rintro e w6 ⟨rfl, hb⟩
  have HI6 := Aside0.mk (Bld.IsBuilder.below HI5.out hb)
  have HX6 := Aside0.mk (below_step HX5.out hb)
  have hsz6 : w3.heap.size ≤ w6.heap.size := HX6.out.size
  clear hb hc4 HI5 HX5
  have HL6 := Aside0.mk (show (Lib.byteCells h1.data.toList).length + h2.size ≤ 140737488355328 by
    have := HL.out
    have h4 : h1.data.toList.length = h1.size := by simp
    simp only [Lib.byteCells, List.length_map]
    omega)
  go_wp2_with (go_at_call 22; refine (Bld.writeString w3.heap.size w3.heap.size _ h2 _ HI6.out HL6.out hsz6).mono ?_)
  rintro e w7 ⟨rfl, hi, hb⟩
  have HI7 : Aside0 (Lib.IsBuilder 64 5 w3.heap.size w3.heap.size (Lib.byteCells (h1.data.toList ++ h2.data.toList)) w7) := by
    have := hi
    rw [Bld.strCells_eq, ← Bld.byteCells_append] at this
    exact ⟨.inr this⟩
  have HX7 := Aside0.mk (HX6.out.trans hb)
  have hc5 : w7.cell? ⟨gb, 5, none⟩ = some (.slice A0_5 l0_5.length c0_5) := (blk_cell ((HX7.out.block gb GB).trans BK3.out) 5).trans rfl
  clear hb hi HI6 HX6 hsz6 HL6
  go_wp2_with (go_at_call 24; refine (varint_Put.calls (l0_5.length : Int) h3 _ A5.out).mono ?_)
  rintro e w8 ⟨rfl, hb⟩
  have HI8 := Aside0.mk (Bld.IsBuilder.below HI7.out hb)
  have HX8 := Aside0.mk (below_step HX7.out hb)
  have hsz8 : w3.heap.size ≤ w8.heap.size := HX8.out.size
  clear hb hc5 HI7 HX7
  have HL8 := Aside0.mk (show (Lib.byteCells (h1.data.toList ++ h2.data.toList)).length + h3.size ≤ 140737488355328 by
    have := HL.out
    have e1 : h1.data.toList.length = h1.size := by simp
    have e2 : h2.data.toList.length = h2.size := by simp
    simp only [Lib.byteCells, List.length_map, List.length_append]
    omega)
  go_wp2_with (go_at_call 22; refine (Bld.writeString w3.heap.size w3.heap.size _ h3 _ HI8.out HL8.out hsz8).mono ?_)
  rintro e w9 ⟨rfl, hi, hb⟩
  have HI9 : Aside0 (Lib.IsBuilder 64 5 w3.heap.size w3.heap.size (Lib.byteCells ((h1.data.toList ++ h2.data.toList) ++ h3.data.toList)) w9) := by
    have := hi
    rw [Bld.strCells_eq, ← Bld.byteCells_append] at this
    exact ⟨.inr this⟩
  have HX9 := Aside0.mk (HX8.out.trans hb)
  have hc5 : w9.cell? ⟨gb, 5, none⟩ = some (.slice A0_5 l0_5.length c0_5) := (blk_cell ((HX9.out.block gb GB).trans BK3.out) 5).trans rfl
  clear hb hi HI8 HX8 hsz8 HL8
  go_wp2
  generalize hHd : (h1.data.toList ++ h2.data.toList) ++ h3.data.toList = hd at HI9 HZ
  have HD := Aside0.mk (show hd.length ≤ 1000000 by
    have := HL.out
    have e1 : h1.data.toList.length = h1.size := by simp
    have e2 : h2.data.toList.length = h2.size := by simp
    have e3 : h3.data.toList.length = h3.size := by simp
    rw [← hHd, List.length_append, List.length_append]
    omega)
  clear hHd
  go_loopw [6, 7, 8, 9, 10, 74] (fun v6 v7 v8 v9 v10 v74 wr => ∃ (j : Nat) (p : List UInt8) (v : Option (List UInt8)), j ≤ l0_5.length ∧ v74 = .int .i64 j ∧ Aside0 (wire_EncodeReply.g k (l0_5.drop j) = some v) ∧ Aside0 (v.map (p ++ ·) = U) ∧ Aside0 (p.length ≤ j * 1000000) ∧ Aside0 (Lib.IsBuilder 64 5 w3.heap.size w3.heap.size (Lib.byteCells (hd ++ p)) wr) ∧ Aside0 (Below w3.heap.size w3 wr)) (fun _ _ _ _ _ v74 _ => l0_5.length - (intOf v74).toNat)
  case atStart =>
    refine ⟨0, [], U, Nat.zero_le _, rfl, ⟨A6.out⟩, ⟨by cases U <;> rfl⟩, ⟨Nat.zero_le _⟩, ⟨?_⟩, HX9⟩
    rw [List.append_nil]
    exact HI9.out
  case round =>
    obtain ⟨j, p, v, hj, rfl, G, PV, PL, HI, HX⟩ := hrel
    clear HI9 HX9 hc5
    have HBr := Aside0.mk (below_step HB3.out HX.out)
    by_cases hlt : j < l0_5.length
    · have hji : (j : Int) < (l0_5.length : Int) := by omega
      have hj0 : 0 ≤ (j : Int) := by omega
      obtain ⟨ad, eA, hx0, hx1, hx2, hx3⟩ := at_T59 HR5.out (j : Int) hj0 hji
      cases eA
      replace hx0 := (HBr.out.cell (World.block_lt_of_cell? w _ hx0)).trans hx0
      replace hx1 := (HBr.out.cell (World.block_lt_of_cell? w _ hx1)).trans hx1
      replace hx2 := (HBr.out.cell (World.block_lt_of_cell? w _ hx2)).trans hx2
      replace hx3 := (HBr.out.cell (World.block_lt_of_cell? w _ hx3)).trans hx3
      rw [Int.toNat_natCast] at hx0 hx1 hx2 hx3
      have hd1 : l0_5.drop j = rd_T59 l0_5 (j : Int) :: l0_5.drop (j + 1) := by
        rw [List.drop_eq_getElem_cons hlt]
        simp [rd_T59, List.getD_eq_getElem?_getD, List.getElem?_eq_getElem hlt]
      have hg := G.out
      rw [hd1] at hg
      generalize rd_T59 l0_5 (j : Int) = x at hx0 hx1 hx2 hx3 hg
      obtain ⟨tx, q1, q2, q3, q4, q5, htx, hq, hway⟩ := wire_EncodeReply.g_step k _ _ _ hg
      have A7 := Aside0.mk htx
      have A8 := Aside0.mk hq
      have WY := Aside0.mk hway
      clear hd1 hg htx hq hway
      go_wp2_with (first | ((with_reducible refine gate_dst (N := 6) rfl ?_); refine box_event ?hg (N := 6) ?hd (cs := #[.int .i64 0, .int .i64 0, .int .i64 0, .string ⟨#[]⟩]) (t := 59) ?hr ?_; (case hd => rfl); (case hg => rfl); (case hr => first | (go_simp; done) | (go_simp; rfl)); intro gr hg w10 hbox hb; have BR := Aside0.mk hbox; have HB10 := Aside0.mk hb; have GR : wr.heap.size ≤ gr := (by rw [hg]; exact Nat.le_refl _); clear hb hbox hg; have hz0 : w10.cell? ⟨gr, 0, none⟩ = some (.int .i64 0) := (blk_cell BR.out 0).trans rfl; have hz1 : w10.cell? ⟨gr, 1, none⟩ = some (.int .i64 0) := (blk_cell BR.out 1).trans rfl; have hz2 : w10.cell? ⟨gr, 2, none⟩ = some (.int .i64 0) := (blk_cell BR.out 2).trans rfl; have hz3 : w10.cell? ⟨gr, 3, none⟩ = some (.string ⟨#[]⟩) := (blk_cell BR.out 3).trans rfl; have hf0 := blk_frozen BR.out 0; have hf1 := blk_frozen BR.out 1; have hf2 := blk_frozen BR.out 2; have hf3 := blk_frozen BR.out 3) | (go_at_call 25; fail))
      refine (batch_PutRecord.calls x.f1.f0 x.f1.f1 x.f1.f2 tx _ A7.out).mono ?_
      rintro e w11 ⟨rfl, hb⟩
      have BR11 := Aside0.mk (blk_below (g := gr) (o := .cells #[.int .i64 x.f0, .int .i64 x.f1.f0, .int .i64 x.f1.f1, .string x.f1.f2] 59 (0, 0)) (by refine blk_put (cs := #[.int .i64 x.f0, .int .i64 x.f1.f0, .int .i64 x.f1.f1, .string ⟨#[]⟩]) ?_ 3 _ rfl; refine blk_put (cs := #[.int .i64 x.f0, .int .i64 x.f1.f0, .int .i64 0, .string ⟨#[]⟩]) ?_ 2 _ rfl; refine blk_put (cs := #[.int .i64 x.f0, .int .i64 0, .int .i64 0, .string ⟨#[]⟩]) ?_ 1 _ rfl; refine blk_put (cs := #[.int .i64 0, .int .i64 0, .int .i64 0, .string ⟨#[]⟩]) ?_ 0 _ rfl; exact BR.out) hb)
      have HW := Aside0.mk (below_step (below_set (j := 3) (v := .string x.f1.f2) (below_set (j := 2) (v := .int .i64 x.f1.f1) (below_set (j := 1) (v := .int .i64 x.f1.f0) (below_set (j := 0) (v := .int .i64 x.f0) HB10.out GR) GR) GR) GR) hb)
      clear hb HB10 hz0 hz1 hz2 hz3 hf0 hf1 hf2 hf3 BR hx0 hx1 hx2 hx3
      go_wp2_with (go_at_call 26; refine (batch_TakeRecord.calls k tx q1 q2 q3 q4 q5 _ A8.out).mono ?_)
      rintro e w12 ⟨rfl, hb⟩
      have BR12 := Aside0.mk (blk_below BR11.out hb)
      have HW12 := Aside0.mk (below_step HW.out hb)
      have GR12 : gr < w12.heap.size := blk_lt BR12.out
      clear hb BR11 HW
      rcases WY.out with ⟨hq, hv⟩ | ⟨hq, ⟨hw, hv⟩ | ⟨hw, y, u, hy, hs, hu, hv⟩⟩
      · have hqb : (q5 != 0) = true := bne_iff_ne.mpr hq
        have hUn : U = none := by have := PV.out; rw [hv] at this; exact this.symm
        have hzz := HZ.out
        rw [hUn] at hzz
        have h : some ((⟨#[]⟩ : ByteArray), (1 : Int)) = some (r1, r2) := hzz
        have HE1 := Aside0.mk (Prod.mk.inj (Option.some.inj h)).1
        have HE2 := Aside0.mk (Prod.mk.inj (Option.some.inj h)).2
        clear h
        go_wp2_with (first | ((with_reducible refine gate_dst (N := 8) rfl ?_); refine box_event ?hg (N := 8) ?hd (cs := #[.int .i64 0, .int .i64 0, .string ⟨#[]⟩]) (t := 57) ?hr ?_; (case hd => rfl); (case hg => rfl); (case hr => first | (go_simp; done) | (go_simp; rfl)); intro g8 hg w13 hbox hb; have HB13 := Aside0.mk hb; have B8 := Aside0.mk hbox; have G8 : w12.heap.size ≤ g8 := (by rw [hg]; exact Nat.le_refl _); have hne : gr ≠ g8 := (by rw [hg]; exact Nat.ne_of_lt GR12); have hne' : ¬ g8 = gr := (fun e => hne e.symm); have BR13 := Aside0.mk (blk_below BR12.out hb); clear hb hbox hg; have hzr : w13.cell? ⟨gr, 0, none⟩ = some (.int .i64 x.f0) := (blk_cell BR13.out 0).trans rfl; have hy0 : w13.cell? ⟨g8, 0, none⟩ = some (.int .i64 0) := (blk_cell B8.out 0).trans rfl; have hy1 : w13.cell? ⟨g8, 1, none⟩ = some (.int .i64 0) := (blk_cell B8.out 1).trans rfl; have hy2 : w13.cell? ⟨g8, 2, none⟩ = some (.string ⟨#[]⟩) := (blk_cell B8.out 2).trans rfl; have hg0 := blk_frozen B8.out 0; have hg1 := blk_frozen B8.out 1; have hg2 := blk_frozen B8.out 2))
        go_ret2
        refine ⟨?_, below_step HBr.out (below_step HW12.out (below_set (j := 2) (v := .string q3) (below_set (j := 1) (v := .int .i64 q2) (below_set (j := 0) (v := .int .i64 q1) HB13.out G8) G8) G8))⟩
        rw [← HE1.out, ← HE2.out]
        rfl
      · have A9 := Aside0.mk hw
        have hqb : (q5 != 0) = false := by rw [hq]; rfl
        have hUn : U = none := by have := PV.out; rw [hv] at this; exact this.symm
        have hzz := HZ.out
        rw [hUn] at hzz
        have h : some ((⟨#[]⟩ : ByteArray), (1 : Int)) = some (r1, r2) := hzz
        have HE1 := Aside0.mk (Prod.mk.inj (Option.some.inj h)).1
        have HE2 := Aside0.mk (Prod.mk.inj (Option.some.inj h)).2
        clear h
        go_wp2_with (first | ((with_reducible refine gate_dst (N := 8) rfl ?_); refine box_event ?hg (N := 8) ?hd (cs := #[.int .i64 0, .int .i64 0, .string ⟨#[]⟩]) (t := 57) ?hr ?_; (case hd => rfl); (case hg => rfl); (case hr => first | (go_simp; done) | (go_simp; rfl)); intro g8 hg w13 hbox hb; have HB13 := Aside0.mk hb; have B8 := Aside0.mk hbox; have G8 : w12.heap.size ≤ g8 := (by rw [hg]; exact Nat.le_refl _); have hne : gr ≠ g8 := (by rw [hg]; exact Nat.ne_of_lt GR12); have hne' : ¬ g8 = gr := (fun e => hne e.symm); have BR13 := Aside0.mk (blk_below BR12.out hb); clear hb hbox hg; have hzr : w13.cell? ⟨gr, 0, none⟩ = some (.int .i64 x.f0) := (blk_cell BR13.out 0).trans rfl; have hy0 : w13.cell? ⟨g8, 0, none⟩ = some (.int .i64 0) := (blk_cell B8.out 0).trans rfl; have hy1 : w13.cell? ⟨g8, 1, none⟩ = some (.int .i64 0) := (blk_cell B8.out 1).trans rfl; have hy2 : w13.cell? ⟨g8, 2, none⟩ = some (.string ⟨#[]⟩) := (blk_cell B8.out 2).trans rfl; have hg0 := blk_frozen B8.out 0; have hg1 := blk_frozen B8.out 1; have hg2 := blk_frozen B8.out 2))
        refine (wire_within.calls _ 1 [x.f0] _ _ (wire_EncodeReply.new_ints [x.f0] _ 3 (by simp) (by first | exact blk_new _ _ | exact wire_EncodeReply.new1 _ _ _ | exact wire_EncodeReply.new2 _ _ _ (by simp) | simpa using blk_new _ _) rfl) (by simp) A9.out).mono ?_
        rintro e w14 ⟨rfl, hd'⟩
        go_wp2
        go_ret2
        refine ⟨?_, below_step (below_alloc (below_step HBr.out (below_step HW12.out (below_set (j := 2) (v := .string q3) (below_set (j := 1) (v := .int .i64 q2) (below_set (j := 0) (v := .int .i64 q1) HB13.out G8) G8) G8))) _) hd'.below⟩
        rw [← HE1.out, ← HE2.out]
        rfl
      · have A9 := Aside0.mk hw
        have hqb : (q5 != 0) = false := by rw [hq]; rfl
        have A10 := Aside0.mk hy
        have HS := Aside0.mk hs
        have A11 := Aside0.mk hu
        have HV := Aside0.mk hv
        clear hw hy hs hu hv
        go_wp2_with (first | ((with_reducible refine gate_dst (N := 8) rfl ?_); refine box_event ?hg (N := 8) ?hd (cs := #[.int .i64 0, .int .i64 0, .string ⟨#[]⟩]) (t := 57) ?hr ?_; (case hd => rfl); (case hg => rfl); (case hr => first | (go_simp; done) | (go_simp; rfl)); intro g8 hg w13 hbox hb; have HB13 := Aside0.mk hb; have B8 := Aside0.mk hbox; have G8 : w12.heap.size ≤ g8 := (by rw [hg]; exact Nat.le_refl _); have hne : gr ≠ g8 := (by rw [hg]; exact Nat.ne_of_lt GR12); have hne' : ¬ g8 = gr := (fun e => hne e.symm); have BR13 := Aside0.mk (blk_below BR12.out hb); clear hb hbox hg; have hzr : w13.cell? ⟨gr, 0, none⟩ = some (.int .i64 x.f0) := (blk_cell BR13.out 0).trans rfl; have hy0 : w13.cell? ⟨g8, 0, none⟩ = some (.int .i64 0) := (blk_cell B8.out 0).trans rfl; have hy1 : w13.cell? ⟨g8, 1, none⟩ = some (.int .i64 0) := (blk_cell B8.out 1).trans rfl; have hy2 : w13.cell? ⟨g8, 2, none⟩ = some (.string ⟨#[]⟩) := (blk_cell B8.out 2).trans rfl; have hg0 := blk_frozen B8.out 0; have hg1 := blk_frozen B8.out 1; have hg2 := blk_frozen B8.out 2))
        refine (wire_within.calls _ 1 [x.f0] _ _ (wire_EncodeReply.new_ints [x.f0] _ 3 (by simp) (by first | exact blk_new _ _ | exact wire_EncodeReply.new1 _ _ _ | exact wire_EncodeReply.new2 _ _ _ (by simp) | simpa using blk_new _ _) rfl) (by simp) A9.out).mono ?_
        rintro e w14 ⟨rfl, hd'⟩
        have BR14 := Aside0.mk (blk_below (g := gr) (o := .cells #[.int .i64 x.f0, .int .i64 x.f1.f0, .int .i64 x.f1.f1, .string x.f1.f2] 59 (0, 0)) (by refine blk_alloc ?_ _; refine blk_far ?_ hne _; refine blk_far ?_ hne _; refine blk_far ?_ hne _; exact BR13.out) hd'.below)
        have HW14 := Aside0.mk (below_step (below_alloc (below_step HW12.out (below_set (j := 2) (v := .string q3) (below_set (j := 1) (v := .int .i64 q2) (below_set (j := 0) (v := .int .i64 q1) HB13.out G8) G8) G8)) _) hd'.below)
        have hz14 : w14.cell? ⟨gr, 0, none⟩ = some (.int .i64 x.f0) := (blk_cell BR14.out 0).trans rfl
        clear hd' hzr hy0 hy1 hy2 hg0 hg1 hg2 HB13 B8 BR13 BR12 HW12
        have hsm : y.size + tx.size ≤ 9223372036854775807 := by have := HS.out; omega
        have hsm0 := eq_true hsm
        have hsm1 : decide (y.size + tx.size ≤ 9223372036854775807) = true := decide_eq_true hsm
        have hsm2 : (9223372036854775807 < y.size + tx.size) = False := eq_false (Nat.not_lt.2 hsm)
        go_wp2_with (go_at_call 24; refine (varint_Put.calls x.f0 y _ A10.out).mono ?_)
        rintro e w15 ⟨rfl, hb⟩
        have HW15 := Aside0.mk (below_step HW14.out hb)
        have HX15 := Aside0.mk (below_step HX.out HW15.out)
        have HI15 := Aside0.mk (Bld.IsBuilder.below HI.out HW15.out)
        have hsz15 : w3.heap.size ≤ w15.heap.size := HX15.out.size
        clear hb HW14 HW15 hz14 BR14
        have HL15 := Aside0.mk (show (Lib.byteCells (hd ++ p)).length + (y ++ tx).size ≤ 140737488355328 by
          have e1 := HD.out
          have e2 := PL.out
          have e3 := HS.out
          simp only [Lib.byteCells, List.length_map, List.length_append, ByteArray.size_append]
          omega)
        go_wp2_with (go_at_call 22; refine (Bld.writeString w3.heap.size w3.heap.size _ (y ++ tx) _ HI15.out HL15.out hsz15).mono ?_)
        rintro e w16 ⟨rfl, hi, hb⟩
        have HI16 := Aside0.mk hi
        have HX16 := Aside0.mk (HX15.out.trans hb)
        clear hi hb
        go_wp2
        go_roundw
        case rel =>
          refine ⟨j + 1, p ++ (y.data.toList ++ tx.data.toList), u, by omega, by go_num, A11, ⟨?_⟩, ⟨?_⟩, ⟨?_⟩, HX16⟩
          · rw [← PV.out, HV.out]; cases u <;> simp [List.append_assoc]
          · have e2 := PL.out
            have e3 := HS.out
            have e4 : y.data.toList.length = y.size := by simp
            have e5 : tx.data.toList.length = tx.size := by simp
            simp only [List.length_append]
            omega
          · have := HI16.out
            rw [Bld.strCells_eq, ← Bld.byteCells_append, ByteArray.data_append, Array.toList_append, List.append_assoc] at this
            exact .inr this
        case measure => simp [intOf]; omega
    · obtain rfl : j = l0_5.length := by omega
      have hji : ¬ ((l0_5.length : Nat) : Int) < ((l0_5.length : Nat) : Int) := by omega
      have hv : v = some [] := by
        have := G.out
        rw [List.drop_length] at this
        exact (Option.some.inj this).symm
      subst hv
      have hUs : U = some p := by have := PV.out; rw [← this]; simp
      have hzz := HZ.out
      rw [hUs] at hzz
      have h : some (Vm.bs (hd ++ p), (0 : Int)) = some (r1, r2) := hzz
      have HE1 := Aside0.mk (Prod.mk.inj (Option.some.inj h)).1
      have HE2 := Aside0.mk (Prod.mk.inj (Option.some.inj h)).2
      clear h
      have hszr : w3.heap.size ≤ wr.heap.size := HX.out.size
      go_wp2_with (go_at_call 27; refine (Bld.string w3.heap.size w3.heap.size _ _ HI.out hszr).mono ?_)
      rintro e w17 rfl hb8
      have HX17 := Aside0.mk (below_weaken HB3.out HB3.out.size (HX.out.trans hb8))
      clear hb8
      go_wp2
      go_ret2
      refine ⟨?_, HX17.out⟩
      rw [← HE1.out, ← HE2.out]
      rfl

end Go.Proofs.Ytikbpjdgihheiaa.P
end
