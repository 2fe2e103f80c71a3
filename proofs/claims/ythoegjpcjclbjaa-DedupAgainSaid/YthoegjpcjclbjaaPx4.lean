-- Written by wip/mk.py of this repo: the kit's print program, with contracts of our own among its functions.
import Derived.Test.YthoegjpcjclbjaaPx0
namespace Go.Proofs.Ythoegjpcjclbjaa.P
open Go.RowKit Go.Proofs.YthoegjpcjclbjaaW.PrintWords Go.Proofs.YthoegjpcjclbjaaW.PrintLast Go.Proofs.YthoegjpcjclbjaaW.PrintMore
attribute [local go_sem] max2_int min2_int max_two min_two max_three min_three max_four min_four   -- for this text's walks alone
set_option linter.unusedVariables false
set_option linter.unusedSimpArgs false

-- NOT PRINTED: function 30 (api_Prod_30)

/-! ### dedup_find: function 21 -/
/-- The first index at which p holds, counted from i on; -1. -/
def idxB44 (p : S44 → Bool) : List S44 → Nat → Int
  | [], _ => -1
  | x :: l, i => if p x = true then (i : Int) else idxB44 p l (i + 1)
set_option maxHeartbeats 4000000 in
set_option maxRecDepth 100000 in
theorem idx44 (G : Nat) (lb : Array Value) (p : S44 → Bool) (eg : ∀ args w, (callFunc G args).run Try.prog w = .ok (.enter G args) w) (A0 : Option Addr) (c0 : Nat) (l0 : List S44) (w : World) (hr0 : Kd.C k44 w A0 l0.length l0) (hc0 : l0.length ≤ c0)
    (hp : ∀ (W : World) (x : S44), Below w.heap.size w W → Calls Try.prog G (#[.agg #[.int .i64 x.f0, .int .i64 x.f1, .int .i64 x.f2, .int .i64 x.f3, .int .i64 x.f4]] ++ lb) W fun e w' => e = .returned (.bool (p x)) ∧ Below w.heap.size w w') :
    Calls Try.prog 30 #[.slice A0 l0.length c0, .func (.func G) #[] lb] w fun e w' => e = .returned (.int .i64 (idxB44 p l0 0)) ∧ Below w.heap.size w w' := by
  have HC := Aside0.mk hr0
  have HP := Aside0.mk hp
  have hlb := hr0.2.1
  obtain ⟨r, hr⟩ : ∃ r, r = idxB44 p l0 0 := ⟨_, rfl⟩
  rw [← hr]
  have HR := Aside0.mk hr
  clear hr0 hp hr
  go_enter Try.func30, Try.ntmps30
  go_wp2
  go_loopw [5, 8] (fun v5 v8 wr => ∃ j : Nat, j ≤ l0.length ∧ v8 = .int .i64 j ∧ Aside0 (Below w.heap.size w wr) ∧ Aside0 (r = idxB44 p (l0.drop j) j)) (fun _ v8 _ => l0.length - (intOf v8).toNat)
  case atStart => exact ⟨0, Nat.zero_le _, rfl, ⟨Below.refl _ _⟩, ⟨HR.out⟩⟩
  case round =>
    obtain ⟨j, hj, rfl, HB, HI⟩ := hrel
    by_cases hlt : j < l0.length
    · have hji : (j : Int) < (l0.length : Int) := by omega
      have hj0 : 0 ≤ (j : Int) := by omega
      obtain ⟨ad, eA, hx0, hx1, hx2, hx3, hx4⟩ := at_T44 HC.out (j : Int) hj0 hji
      cases eA
      replace hx0 := (HB.out.cell (World.block_lt_of_cell? w _ hx0)).trans hx0; replace hx1 := (HB.out.cell (World.block_lt_of_cell? w _ hx1)).trans hx1; replace hx2 := (HB.out.cell (World.block_lt_of_cell? w _ hx2)).trans hx2; replace hx3 := (HB.out.cell (World.block_lt_of_cell? w _ hx3)).trans hx3; replace hx4 := (HB.out.cell (World.block_lt_of_cell? w _ hx4)).trans hx4
      rw [Int.toNat_natCast] at hx0 hx1 hx2 hx3 hx4
      obtain ⟨x, hx⟩ : ∃ x, x = rd_T44 l0 (j : Int) := ⟨_, rfl⟩
      rw [← hx] at hx0 hx1 hx2 hx3 hx4
      have hd : idxB44 p (l0.drop j) j = if p x = true then (j : Int) else idxB44 p (l0.drop (j + 1)) (j + 1) := by
        rw [List.drop_eq_getElem_cons hlt, hx]
        have e : rd_T44 l0 (j : Int) = l0[j] := by simp [rd_T44, List.getD_eq_getElem?_getD, List.getElem?_eq_getElem hlt]
        rw [e]
        rfl
      have HD := Aside0.mk hd
      clear hx hd
      have hcall := HP.out wr x HB.out
      cases hq : p x with
      | true =>
        rw [hq] at hcall
        have HCALL := Aside0.mk hcall
        clear hcall
        go_wp2_with (go_at_fn G; refine HCALL.out.mono ?_; rintro e w' ⟨rfl, hb'⟩; have HB' := Aside0.mk hb'; clear hb')
        go_ret
        refine ⟨?_, HB'.out⟩
        rw [HI.out, HD.out, if_pos hq]
        rfl
      | false =>
        rw [hq] at hcall
        have HCALL := Aside0.mk hcall
        clear hcall
        go_wp2_with (go_at_fn G; refine HCALL.out.mono ?_; rintro e w' ⟨rfl, hb'⟩; have HB' := Aside0.mk hb'; clear hb')
        go_roundw
        case rel => exact ⟨j + 1, by omega, by go_num, ⟨HB'.out⟩, ⟨by rw [HI.out, HD.out, if_neg (by rw [hq]; decide)]⟩⟩
        case measure => simp [intOf]; omega
    · obtain rfl : j = l0.length := by omega
      have hji : ¬ ((l0.length : Nat) : Int) < ((l0.length : Nat) : Int) := by omega
      go_wp2
      go_ret
      refine ⟨?_, HB.out⟩
      rw [HI.out, List.drop_length]
      rfl
def dedup_find.v (l : List S44) (pid : Int) : Int × Bool :=
  if 0 ≤ idxB44 (fun x => x.f0 == pid) l 0 then (idxB44 (fun x => x.f0 == pid) l 0, true)
  else if 0 ≤ idxB44 (fun x => decide (pid < x.f0)) l 0 then (idxB44 (fun x => decide (pid < x.f0)) l 0, false) else ((l.length : Int), false)
def dedup_find.f (l : List S44) (pid : Int) : Option (Int × Bool) := some (dedup_find.v l pid)
set_option maxHeartbeats 4000000 in
set_option maxRecDepth 100000 in
theorem dedup_find.p1 (g : Nat) (pid : Int) (w : World) (hg : w.heap[g]? = some (.cells #[.int .i64 pid] 3 (0, 0))) (W : World) (x : S44) (hb : Below w.heap.size w W) :
    Calls Try.prog 31 (#[.agg #[.int .i64 x.f0, .int .i64 x.f1, .int .i64 x.f2, .int .i64 x.f3, .int .i64 x.f4]] ++ #[.pointer (some ⟨g, 0, none⟩)]) W fun e w' => e = .returned (.bool (x.f0 == pid)) ∧ Below w.heap.size w w' := by
  have hc : W.cell? ⟨g, 0, none⟩ = some (.int .i64 pid) := (blk_cell (blk_below hg hb) 0).trans rfl
  have hlt : g < W.heap.size := Nat.lt_of_lt_of_le (blk_lt hg) hb.size
  have HB := Aside0.mk hb
  obtain ⟨f0, f1, f2, f3, f4⟩ := x
  show Calls Try.prog 31 #[.agg #[.int .i64 f0, .int .i64 f1, .int .i64 f2, .int .i64 f3, .int .i64 f4], .pointer (some ⟨g, 0, none⟩)] W fun e w' => e = .returned (.bool (f0 == pid)) ∧ Below w.heap.size w w'
  clear hg hb
  go_enter Try.func31, Try.ntmps31
  go_wp2
  go_ret
  exact ⟨rfl, below_alloc HB.out _⟩
set_option maxHeartbeats 4000000 in
set_option maxRecDepth 100000 in
theorem dedup_find.p2 (g : Nat) (pid : Int) (w : World) (hg : w.heap[g]? = some (.cells #[.int .i64 pid] 3 (0, 0))) (W : World) (x : S44) (hb : Below w.heap.size w W) :
    Calls Try.prog 32 (#[.agg #[.int .i64 x.f0, .int .i64 x.f1, .int .i64 x.f2, .int .i64 x.f3, .int .i64 x.f4]] ++ #[.pointer (some ⟨g, 0, none⟩)]) W fun e w' => e = .returned (.bool (decide (pid < x.f0))) ∧ Below w.heap.size w w' := by
  have hc : W.cell? ⟨g, 0, none⟩ = some (.int .i64 pid) := (blk_cell (blk_below hg hb) 0).trans rfl
  have hlt : g < W.heap.size := Nat.lt_of_lt_of_le (blk_lt hg) hb.size
  have HB := Aside0.mk hb
  obtain ⟨f0, f1, f2, f3, f4⟩ := x
  show Calls Try.prog 32 #[.agg #[.int .i64 f0, .int .i64 f1, .int .i64 f2, .int .i64 f3, .int .i64 f4], .pointer (some ⟨g, 0, none⟩)] W fun e w' => e = .returned (.bool (decide (pid < f0))) ∧ Below w.heap.size w w'
  clear hg hb
  go_enter Try.func32, Try.ntmps32
  go_wp2
  go_ret
  exact ⟨rfl, below_alloc HB.out _⟩
set_option maxHeartbeats 4000000 in
set_option maxRecDepth 100000 in
theorem dedup_find.calls (A0 : Option Addr) (c0 : Nat) (l0 : List S44) (a1 : Int) (r1 : Int) (r2 : Bool) (w : World) (hr0 : Kd.C k44 w A0 l0.length l0) (hc0 : l0.length ≤ c0) (h : dedup_find.f l0 a1 = some (r1, r2)) :
    Calls Try.prog 21 #[.slice A0 l0.length c0, .int .i64 a1] w fun e w' => e = .returned (.tuple #[.int .i64 r1, .bool r2]) ∧ Below w.heap.size w w' := by
  have HR := Aside0.mk hr0
  have HC := Aside0.mk hc0
  have hlb := hr0.2.1
  have eg1 : Aside0 (∀ args w, (callFunc 31 args).run Try.prog w = .ok (.enter 31 args) w) := ⟨enters_of Try.func31 (by kernel_rfl) rfl⟩
  have eg2 : Aside0 (∀ args w, (callFunc 32 args).run Try.prog w = .ok (.enter 32 args) w) := ⟨enters_of Try.func32 (by kernel_rfl) rfl⟩
  unfold dedup_find.f dedup_find.v at h
  injection h with h
  obtain ⟨i, hi⟩ : ∃ i, i = idxB44 (fun x => x.f0 == a1) l0 0 := ⟨_, rfl⟩
  obtain ⟨j, hj⟩ : ∃ j, j = idxB44 (fun x => decide (a1 < x.f0)) l0 0 := ⟨_, rfl⟩
  rw [← hi, ← hj] at h
  have HI := Aside0.mk hi
  have HJ := Aside0.mk hj
  clear hr0 hc0 hi hj
  by_cases c1 : 0 ≤ i
  · rw [if_pos c1] at h
    injection h with h1 h2
    subst h1
    subst h2
    have c1b : decide (0 ≤ i) = true := decide_eq_true c1
    go_enter Try.func21, Try.ntmps21
    go_wp2_with (first | ((with_reducible refine gate_dst (N := 3) rfl ?_); refine box_event ?hg (N := 3) ?hd (cs := #[.int .i64 a1]) (t := 3) ?hr ?_; (case hd => rfl); (case hg => rfl); (case hr => first | (go_simp; done) | (go_simp; rfl)); intro gb hg w1 hbox hb; have HB1 := Aside0.mk hb; have BK := Aside0.mk hbox; clear hb hbox hg) | (go_at_call 30; fail))
    refine (idx44 31 #[.pointer (some ⟨gb, 0, none⟩)] (fun x => x.f0 == a1) eg1.out A0 c0 l0 _ (Kd.C_below HR.out HB1.out) HC.out (fun W x hb => dedup_find.p1 gb a1 _ BK.out W x hb)).mono ?_
    rintro e w2 ⟨rfl, hb⟩
    have HB2 := Aside0.mk (below_step HB1.out hb)
    have BK2 := Aside0.mk (blk_below BK.out hb)
    rw [← HI.out]
    clear hb HB1 BK
    go_wp2
    go_ret2
    exact ⟨rfl, HB2.out⟩
  · rw [if_neg c1] at h
    have c1b : decide (0 ≤ i) = false := decide_eq_false c1
    by_cases c2 : 0 ≤ j
    · rw [if_pos c2] at h
      injection h with h1 h2
      subst h1
      subst h2
      have c2b : decide (0 ≤ j) = true := decide_eq_true c2
      go_enter Try.func21, Try.ntmps21
      go_wp2_with (first | ((with_reducible refine gate_dst (N := 3) rfl ?_); refine box_event ?hg (N := 3) ?hd (cs := #[.int .i64 a1]) (t := 3) ?hr ?_; (case hd => rfl); (case hg => rfl); (case hr => first | (go_simp; done) | (go_simp; rfl)); intro gb hg w1 hbox hb; have HB1 := Aside0.mk hb; have BK := Aside0.mk hbox; clear hb hbox hg) | (go_at_call 30; fail))
      refine (idx44 31 #[.pointer (some ⟨gb, 0, none⟩)] (fun x => x.f0 == a1) eg1.out A0 c0 l0 _ (Kd.C_below HR.out HB1.out) HC.out (fun W x hb => dedup_find.p1 gb a1 _ BK.out W x hb)).mono ?_
      rintro e w2 ⟨rfl, hb⟩
      have HB2 := Aside0.mk (below_step HB1.out hb)
      have BK2 := Aside0.mk (blk_below BK.out hb)
      rw [← HI.out]
      clear hb HB1 BK
      go_wp2_with (fail)
      refine (idx44 32 #[.pointer (some ⟨gb, 0, none⟩)] (fun x => decide (a1 < x.f0)) eg2.out A0 c0 l0 _ (Kd.C_below HR.out HB2.out) HC.out (fun W x hb => dedup_find.p2 gb a1 _ BK2.out W x hb)).mono ?_
      rintro e w3 ⟨rfl, hb⟩
      have HB3 := Aside0.mk (below_step HB2.out hb)
      rw [← HJ.out]
      clear hb HB2 BK2
      go_wp2
      go_ret2
      exact ⟨rfl, HB3.out⟩
    · rw [if_neg c2] at h
      injection h with h1 h2
      subst h1
      subst h2
      have c2b : decide (0 ≤ j) = false := decide_eq_false c2
      go_enter Try.func21, Try.ntmps21
      go_wp2_with (first | ((with_reducible refine gate_dst (N := 3) rfl ?_); refine box_event ?hg (N := 3) ?hd (cs := #[.int .i64 a1]) (t := 3) ?hr ?_; (case hd => rfl); (case hg => rfl); (case hr => first | (go_simp; done) | (go_simp; rfl)); intro gb hg w1 hbox hb; have HB1 := Aside0.mk hb; have BK := Aside0.mk hbox; clear hb hbox hg) | (go_at_call 30; fail))
      refine (idx44 31 #[.pointer (some ⟨gb, 0, none⟩)] (fun x => x.f0 == a1) eg1.out A0 c0 l0 _ (Kd.C_below HR.out HB1.out) HC.out (fun W x hb => dedup_find.p1 gb a1 _ BK.out W x hb)).mono ?_
      rintro e w2 ⟨rfl, hb⟩
      have HB2 := Aside0.mk (below_step HB1.out hb)
      have BK2 := Aside0.mk (blk_below BK.out hb)
      rw [← HI.out]
      clear hb HB1 BK
      go_wp2_with (fail)
      refine (idx44 32 #[.pointer (some ⟨gb, 0, none⟩)] (fun x => decide (a1 < x.f0)) eg2.out A0 c0 l0 _ (Kd.C_below HR.out HB2.out) HC.out (fun W x hb => dedup_find.p2 gb a1 _ BK2.out W x hb)).mono ?_
      rintro e w3 ⟨rfl, hb⟩
      have HB3 := Aside0.mk (below_step HB2.out hb)
      rw [← HJ.out]
      clear hb HB2 BK2
      go_wp2
      go_ret2
      exact ⟨rfl, HB3.out⟩

end Go.Proofs.Ythoegjpcjclbjaa.P
