-- Written by wip/mk.py of this repo: the kit's print program, with contracts of our own among its functions.
import Derived.Test.YtkelkigkoceljaaPx0
import Derived.Test.YtkelkigkoceljaaPx3
import Derived.Test.YtkelkigkoceljaaPx4
namespace Go.Proofs.Ytkelkigkoceljaa.P
open Go.RowKit Go.Proofs.YtkelkigkoceljaaW.PrintWords Go.Proofs.YtkelkigkoceljaaW.PrintLast Go.Proofs.YtkelkigkoceljaaW.PrintMore
attribute [local go_sem] max2_int min2_int max_two min_two max_three min_three max_four min_four   -- for this text's walks alone
set_option linter.unusedVariables false
set_option linter.unusedSimpArgs false

-- NOT PRINTED: function 28 (api_Account_28)

-- NOT PRINTED: function 24 (api_Account_24)

/-! ### quota_Trim: function 14 -/
/-- The first index at which p holds, counted from i on; -1. -/
def idxB49 (p : S49 → Bool) : List S49 → Nat → Int
  | [], _ => -1
  | x :: l, i => if p x = true then (i : Int) else idxB49 p l (i + 1)
set_option maxHeartbeats 4000000 in
set_option maxRecDepth 100000 in
theorem idx49 (G : Nat) (lb : Array Value) (p : S49 → Bool) (eg : ∀ args w, (callFunc G args).run Try.prog w = .ok (.enter G args) w) (A0 : Option Addr) (c0 : Nat) (l0 : List S49) (w : World) (hr0 : Kd.C k49 w A0 l0.length l0) (hc0 : l0.length ≤ c0)
    (hp : ∀ (W : World) (x : S49), Below w.heap.size w W → Calls Try.prog G (#[.agg #[.int .i64 x.f0, .int .i64 x.f1, .int .i64 x.f2]] ++ lb) W fun e w' => e = .returned (.bool (p x)) ∧ Below w.heap.size w w') :
    Calls Try.prog 28 #[.slice A0 l0.length c0, .func (.func G) #[] lb] w fun e w' => e = .returned (.int .i64 (idxB49 p l0 0)) ∧ Below w.heap.size w w' := by
  have HC := Aside0.mk hr0
  have HP := Aside0.mk hp
  have hlb := hr0.2.1
  obtain ⟨r, hr⟩ : ∃ r, r = idxB49 p l0 0 := ⟨_, rfl⟩
  rw [← hr]
  have HR := Aside0.mk hr
  clear hr0 hp hr
  go_enter Try.func28, Try.ntmps28
  go_wp2
  go_loopw [5, 8] (fun v5 v8 wr => ∃ j : Nat, j ≤ l0.length ∧ v8 = .int .i64 j ∧ Aside0 (Below w.heap.size w wr) ∧ Aside0 (r = idxB49 p (l0.drop j) j)) (fun _ v8 _ => l0.length - (intOf v8).toNat)
  case atStart => exact ⟨0, Nat.zero_le _, rfl, ⟨Below.refl _ _⟩, ⟨HR.out⟩⟩
  case round =>
    obtain ⟨j, hj, rfl, HB, HI⟩ := hrel
    by_cases hlt : j < l0.length
    · have hji : (j : Int) < (l0.length : Int) := by omega
      have hj0 : 0 ≤ (j : Int) := by omega
      obtain ⟨ad, eA, hx0, hx1, hx2⟩ := at_T49 HC.out (j : Int) hj0 hji
      cases eA
      replace hx0 := (HB.out.cell (World.block_lt_of_cell? w _ hx0)).trans hx0; replace hx1 := (HB.out.cell (World.block_lt_of_cell? w _ hx1)).trans hx1; replace hx2 := (HB.out.cell (World.block_lt_of_cell? w _ hx2)).trans hx2
      rw [Int.toNat_natCast] at hx0 hx1 hx2
      obtain ⟨x, hx⟩ : ∃ x, x = rd_T49 l0 (j : Int) := ⟨_, rfl⟩
      rw [← hx] at hx0 hx1 hx2
      have hd : idxB49 p (l0.drop j) j = if p x = true then (j : Int) else idxB49 p (l0.drop (j + 1)) (j + 1) := by
        rw [List.drop_eq_getElem_cons hlt, hx]
        have e : rd_T49 l0 (j : Int) = l0[j] := by simp [rd_T49, List.getD_eq_getElem?_getD, List.getElem?_eq_getElem hlt]
        rw [e]
        rfl
      have HD := Aside0.mk hd
      clear hx hd
      have hcall := HP.out wr x HB.out
      cases hq : p x with
      | true =>
        rw [hq] at hcall
        have HCALL := Aside0.mk hcall
        clear hcall
        go_wp2_with (go_at_fn G; refine HCALL.out.mono ?_; rintro e w' ⟨rfl, hb'⟩; have HB' := Aside0.mk hb'; clear hb')
        go_ret
        refine ⟨?_, HB'.out⟩
        rw [HI.out, HD.out, if_pos hq]
        rfl
      | false =>
        rw [hq] at hcall
        have HCALL := Aside0.mk hcall
        clear hcall
        go_wp2_with (go_at_fn G; refine HCALL.out.mono ?_; rintro e w' ⟨rfl, hb'⟩; have HB' := Aside0.mk hb'; clear hb')
        go_roundw
        case rel => exact ⟨j + 1, by omega, by go_num, ⟨HB'.out⟩, ⟨by rw [HI.out, HD.out, if_neg (by rw [hq]; decide)]⟩⟩
        case measure => simp [intOf]; omega
    · obtain rfl : j = l0.length := by omega
      have hji : ¬ ((l0.length : Nat) : Int) < ((l0.length : Nat) : Int) := by omega
      go_wp2
      go_ret
      refine ⟨?_, HB.out⟩
      rw [HI.out, List.drop_length]
      rfl
/-- A row that is known whole. -/
def row49 (W : World) (g : Nat) (l : List S49) (c : Nat) : Prop := ∃ cur : Array Value, W.heap[g]? = some (.cells cur 49 (0, 0)) ∧ cur.size = c * 3 ∧ cur.toList.take (l.length * 3) = l.flatMap enc49
theorem row_frozen49 {W : World} {g : Nat} {l : List S49} {c : Nat} (h : row49 W g l c) (p : Nat) : W.frozen? ⟨g, p, none⟩ = false := by
  obtain ⟨cur, h1, _, _⟩ := h
  exact blk_frozen h1 p
theorem row_cell49 {W : World} {g : Nat} {l : List S49} {c i : Nat} {x : S49} (h : row49 W g (l.set i x) c) (hi : i < l.length) (j : Nat) (hj : j < 3) (u : Value) (hu : (enc49 x)[j]? = some u) : W.cell? ⟨g, i * 3 + j, none⟩ = some u := by
  obtain ⟨cur, h1, h2, h3⟩ := h
  rw [blk_cell h1, ← Array.getElem?_toList]
  have h4 := congrArg (fun z => z[i * 3 + j]?) h3
  rw [List.length_set, List.getElem?_take, if_pos (by omega), Sl.flat_get (K := 3) (fun _ => rfl) (l.set i x) i j (by rw [List.length_set]; exact hi) hj, List.getElem_set_self] at h4
  rw [h4]; exact hu
theorem row_set49 {W : World} {g : Nat} {l : List S49} {c i : Nat} {x : S49} (h : row49 W g (l.set i x) c) (hi : i < l.length) (j : Nat) (hj : j < 3) (u : Value) (y : S49) (hy : enc49 y = (enc49 x).set j u) : row49 (W.setCell ⟨g, i * 3 + j, none⟩ u) g (l.set i y) c := by
  obtain ⟨cur, h1, h2, h3⟩ := h
  obtain ⟨b1, s1, t1⟩ := Sl.block_set h1 (i * 3 + j) (l.length * 3) u
  refine ⟨_, b1, s1.trans h2, ?_⟩
  rw [List.length_set] at h3 ⊢
  have q := Sl.set_cell (enc := enc49) (K := 3) (fun _ => rfl) u j hj y (l.set i x) i (by rw [List.length_set]; exact hi) (by rw [List.getElem_set_self]; exact hy)
  rw [List.set_set] at q
  exact t1.trans ((congrArg (fun z => z.set (i * 3 + j) u) h3).trans q)
theorem row_R49 {W : World} {g : Nat} {l : List S49} {c base : Nat} (h : row49 W g l c) (hb : base ≤ g) (h1 : l.length ≤ c) (h2 : c ≤ 9223372036854775807) : Kd.R k49 49 W base (fun _ => True) (.slice (some ⟨g, 0, none⟩) l.length c) l := by
  obtain ⟨cur, h3, h4, h5⟩ := h
  exact Sl.R_block flat49 hb h3 trivial h1 h2 h4 h5
theorem row_drawn49 {W : World} {g : Nat} {l : List S49} {c : Nat} (h : row49 W g l c) (m : Nat) : row49 (W.drewN m) g l c := by
  obtain ⟨cur, h3, h4, h5⟩ := h
  exact ⟨cur, blk_drewN h3 m, h4, h5⟩
/-- 'clear' behind the first elements of a row that is known whole. -/
theorem run_clear49 (w : World) (g o n c : Nat) (cur : Array Value) (hg : w.heap[g]? = some (.cells cur 49 (0, 0))) (hfit : o + n * 3 ≤ cur.size) (hn : 0 < n) :
    ∃ w', (∀ ty, (Builtin.clear_ #[24] ty #[.slice (some ⟨g, o, none⟩) n c]).run Try.prog w = .ok (.tuple #[]) w') ∧ (∃ cur', w'.heap[g]? = some (.cells cur' 49 (0, 0)) ∧ cur'.size = cur.size ∧ cur'.toList.take o = cur.toList.take o) ∧ w.grownBy w' (some g) := by
  have hv : ∀ w, (zeroValue 49).run Try.prog w = .ok (.agg #[(.int .i64 0), (.int .i64 0), (.int .i64 0)]) w := fun w => by kernel_rfl
  obtain ⟨cs, hcs⟩ : ∃ cs, cs = (Builtin.zeroCells (Value.agg #[(.int .i64 0), (.int .i64 0), (.int .i64 0)]).cells n).toList := ⟨_, rfl⟩
  have hlen : cs.length = n * 3 := by rw [hcs]; simp [Builtin.zeroCells, Value.cells]
  have h1 : ∀ v ∈ cs, v.oneCell' = true := by
    intro v hv2
    rw [hcs] at hv2
    simp only [Builtin.zeroCells, Array.toList_map, List.mem_map] at hv2
    obtain ⟨j, _, rfl⟩ := hv2
    have hj : j % (Value.agg #[(.int .i64 0), (.int .i64 0), (.int .i64 0)]).cells.size < 3 := Nat.mod_lt _ (by decide)
    have hone : ∀ q, q < 3 → (((Value.agg #[(.int .i64 0), (.int .i64 0), (.int .i64 0)]).cells)[q]!).oneCell' = true := by decide
    exact hone _ hj
  have hst := run_storeCells_at Try.prog g o 49 cs 0 cur w hg (by rw [hlen]; simpa using hfit) h1
  refine ⟨w.setRow g (cur.toList.take o ++ cs ++ cur.toList.drop (o + cs.length)).toArray, fun ty => ?_, ⟨_, setRow_heap w g _ _ _ _ hg, ?_, ?_⟩, Sl.grown_setRow w g _⟩
  · obtain ⟨m, rfl⟩ : ∃ m, n = m + 1 := ⟨n - 1, by omega⟩
    have hcs2 : (Builtin.zeroCells (Value.agg #[(.int .i64 0), (.int .i64 0), (.int .i64 0)]).cells (m + 1)).toList = cs := hcs.symm
    simp [Builtin.clear_, run_underlying Try.underlying24, hv, hcs2, hst]
  · rw [List.size_toArray, Sl.len_splice _ _ _ (by rw [hlen, Array.length_toList]; exact hfit), Array.length_toList]
  · exact Sl.take_splice _ _ _ _ (Nat.le_refl _) (by rw [Array.length_toList]; omega)
theorem idxB_spec49 (p : S49 → Bool) : ∀ (l : List S49) (i : Nat), (idxB49 p l i = -1 ∧ l.filter (fun x => !p x) = l) ∨ ∃ k : Nat, k < l.length ∧ idxB49 p l i = ((i + k : Nat) : Int) ∧ (l.take (k + 1)).filter (fun x => !p x) = l.take k
  | [], i => .inl ⟨rfl, rfl⟩
  | x :: l, i => by
    unfold idxB49
    by_cases c : p x = true
    · rw [if_pos c]
      exact .inr ⟨0, by simp, by simp, by simp [c]⟩
    · rw [if_neg c]
      have c0 : p x = false := by simpa using c
      rcases idxB_spec49 p l (i + 1) with ⟨h1, h2⟩ | ⟨k, h1, h2, h3⟩
      · exact .inl ⟨h1, by rw [List.filter_cons, c0]; simpa using h2⟩
      · refine .inr ⟨k + 1, by simpa using h1, by rw [h2]; congr 1; omega, ?_⟩
        rw [List.take_succ_cons, List.filter_cons, c0, List.take_succ_cons, h3]
        rfl
/-- What the row holds when j elements were looked at, and i of them kept. -/
structure DInv49 (p : S49 → Bool) (l : List S49) (i j : Nat) (dk : List S49) : Prop where
  len : dk.length = l.length
  lt : i < j
  le : j ≤ l.length
  kept : dk.take i = (l.take j).filter (fun x => !p x)
  num : ((l.take j).filter (fun x => !p x)).length = i
  rest : dk.drop j = l.drop j
theorem DInv49.skip {p : S49 → Bool} {l : List S49} {i j : Nat} {dk : List S49} (h : DInv49 p l i j dk) (hj : j < l.length) (hp : p l[j] = true) : DInv49 p l i (j + 1) dk := by
  have e : (l.take (j + 1)).filter (fun x => !p x) = (l.take j).filter (fun x => !p x) := by
    rw [List.take_succ_eq_append_getElem hj, List.filter_append]
    simp [hp]
  exact ⟨h.len, by have := h.lt; omega, hj, by rw [e]; exact h.kept, by rw [e]; exact h.num, by rw [← List.drop_drop, ← List.drop_drop, h.rest]⟩
theorem DInv49.keep {p : S49 → Bool} {l : List S49} {i j : Nat} {dk : List S49} (h : DInv49 p l i j dk) (hj : j < l.length) (hp : p l[j] = false) : DInv49 p l (i + 1) (j + 1) (dk.set i l[j]) := by
  have e : (l.take (j + 1)).filter (fun x => !p x) = (l.take j).filter (fun x => !p x) ++ [l[j]] := by
    rw [List.take_succ_eq_append_getElem hj, List.filter_append]
    simp [hp]
  have hi : i < dk.length := by have := h.lt; have := h.len; omega
  refine ⟨by rw [List.length_set]; exact h.len, by have := h.lt; omega, hj, ?_, by rw [e, List.length_append, h.num]; rfl, ?_⟩
  · rw [e, ← h.kept, List.take_succ_eq_append_getElem (by rw [List.length_set]; exact hi), List.getElem_set_self, List.take_set_of_le (Nat.le_refl _)]
  · rw [List.drop_set_of_lt (by have := h.lt; omega), ← List.drop_drop, ← List.drop_drop, h.rest]
set_option maxHeartbeats 8000000 in
set_option maxRecDepth 100000 in
theorem del49 (G : Nat) (lb : Array Value) (p : S49 → Bool) (eg : ∀ args w, (callFunc G args).run Try.prog w = .ok (.enter G args) w) (g c : Nat) (l : List S49) (w : World) (hrow : row49 w g l c) (hlc : l.length ≤ c) (hc : c ≤ 9223372036854775807) (hl0 : 0 < l.length)
    (hp : ∀ (W : World) (x : S49), w.grownBy W (some g) → Calls Try.prog G (#[.agg #[.int .i64 x.f0, .int .i64 x.f1, .int .i64 x.f2]] ++ lb) W fun e w' => e = .returned (.bool (p x)) ∧ Below W.heap.size W w') :
    Calls Try.prog 24 #[.slice (some ⟨g, 0, none⟩) l.length c, .func (.func G) #[] lb] w fun e w' => e = .returned (.slice (some ⟨g, 0, none⟩) (l.filter (fun x => !p x)).length c) ∧ row49 w' g (l.filter (fun x => !p x)) c ∧ w.grownBy w' (some g) := by
  have HROW := Aside0.mk hrow
  have hgw : g < w.heap.size := by obtain ⟨cur, h1, _⟩ := hrow; exact blk_lt h1
  have HP := Aside0.mk hp
  have HC : Aside0 (Kd.C k49 w (some ⟨g, 0, none⟩) l.length l) := ⟨by
    obtain ⟨A', c', h1, _, h2⟩ := Kd.R_reads (row_R49 (base := 0) hrow (Nat.zero_le _) hlc hc)
    injection h1 with e1 _ _
    rw [← e1] at h2
    exact h2⟩
  have HI := Aside0.mk (idx49 G lb p eg (some ⟨g, 0, none⟩) c l w HC.out hlc (fun W x hb => (hp W x ⟨hb.os, hb.tape, hb.output, hb.size, fun k hk _ => hb.block k hk⟩).mono (fun e w' h => ⟨h.1, hb.trans (h.2.mono hb.size)⟩)))
  clear hrow hp
  obtain ⟨n, hn⟩ : ∃ n, n = l.length := ⟨_, rfl⟩
  have hidx : ∃ ix, ix = idxB49 p l 0 := ⟨_, rfl⟩
  obtain ⟨ix, hix⟩ := hidx
  rw [← hix, ← hn] at HI
  rw [← hn] at hlc hl0 ⊢
  have HN := Aside0.mk hn
  rcases idxB_spec49 p l 0 with ⟨h1, h2⟩ | ⟨k0, h1, h2, h3⟩
  · have hneg : (ix == (-1 : Int)) = true := by rw [beq_iff_eq, hix]; exact h1
    have HF := Aside0.mk h2
    have HIX := Aside0.mk (hix.trans h1)
    clear h1 h2 hix hn
    go_enter Try.func24, Try.ntmps24
    go_wp2_with (fail)
    refine HI.out.mono ?_
    rintro e w1 ⟨rfl, hb⟩
    have HB := Aside0.mk hb
    clear hb
    go_wp2
    go_ret
    rw [HF.out, ← HN.out]
    refine ⟨rfl, ?_, ⟨HB.out.os, HB.out.tape, HB.out.output, HB.out.size, fun k hk _ => HB.out.block k hk⟩⟩
    obtain ⟨cur, q1, q2, q3⟩ := HROW.out
    exact ⟨cur, blk_below q1 HB.out, q2, q3⟩
  · have hk : ix = (k0 : Int) := by rw [hix, h2]; omega
    subst hk
    have hneg : ((k0 : Int) == (-1 : Int)) = false := by rw [beq_eq_false_iff_ne]; omega
    have hk0 : k0 < n := by omega
    have hw64 : wrap64 ((k0 : Int) + 1) = ((k0 + 1 : Nat) : Int) := by unfold wrap64; omega
    have HI0 : Aside0 (DInv49 p l k0 (k0 + 1) l) := ⟨⟨rfl, by omega, by omega, h3.symm, by rw [h3, List.length_take]; omega, rfl⟩⟩
    clear h1 h2 h3 hix hn hw64
    go_enter Try.func24, Try.ntmps24
    go_wp2_with (fail)
    refine HI.out.mono ?_
    rintro e w1 ⟨rfl, hb⟩
    have HB1 : Aside0 (w.grownBy w1 (some g)) := ⟨⟨hb.os, hb.tape, hb.output, hb.size, fun k hk _ => hb.block k hk⟩⟩
    have HROW1 : Aside0 (row49 w1 g l c) := ⟨by obtain ⟨cur, q1, q2, q3⟩ := HROW.out; exact ⟨cur, blk_below q1 hb, q2, q3⟩⟩
    clear hb
    go_wp2
    go_loopg [5, 6, 7] n (fun gg s5 s6 _ wr => ∃ (i j : Nat) (dk : List S49), s5 = .int .i64 i ∧ s6 = .int .i64 j ∧ j ≤ n ∧ n - j ≤ gg ∧ Aside0 (DInv49 p l i j dk) ∧ Aside0 (row49 wr g dk c) ∧ Aside0 (w.grownBy wr (some g)))
    case atStart => exact ⟨k0, k0 + 1, l, rfl, by go_num, by omega, by omega, HI0, HROW1, HB1⟩
    case round =>
      obtain ⟨i, j, dk, rfl, rfl, hjn, hgg, HD, HR, HG⟩ := hrel
      have hij := HD.out.lt
      have hgw2 : g < wr.heap.size := Nat.lt_of_lt_of_le hgw HG.out.size
      by_cases hlt : j < n
      · have hji : (j : Int) < (n : Int) := by omega
        have hj0 : (0 : Int) ≤ (j : Int) := by omega
        have hii : (i : Int) < (n : Int) := by omega
        have hi0 : (0 : Int) ≤ (i : Int) := by omega
        have hjl : Aside0 (j < l.length) := ⟨by rw [← HN.out]; exact hlt⟩
        obtain ⟨x, hx⟩ : ∃ x, x = l[j]'hjl.out := ⟨_, rfl⟩
        have HX := Aside0.mk hx
        have HDJ : Aside0 (∃ h : j < dk.length, dk[j] = x) := ⟨by
          have hlen := HD.out.len
          have hl := hjl.out
          refine ⟨by omega, ?_⟩
          have e := congrArg (fun z => z[0]?) HD.out.rest
          simp only [List.getElem?_drop, Nat.add_zero] at e
          rw [List.getElem?_eq_getElem (by omega), List.getElem?_eq_getElem hl] at e
          injection e with e
          rw [e, hx]⟩
        have HCELL : Aside0 (∀ q u, q < 3 → (enc49 x)[q]? = some u → wr.cell? ⟨g, j * 3 + q, none⟩ = some u) := ⟨fun q u hq hu => by
          obtain ⟨h, e⟩ := HDJ.out
          have := HR.out
          rw [← List.set_getElem_self h, e] at this
          exact row_cell49 this h q hq u hu⟩
        clear hx
        obtain ⟨f0, f1, f2⟩ := x
        have hx0 : wr.cell? ⟨g, j * 3, none⟩ = some (.int .i64 f0) := HCELL.out 0 _ (by decide) rfl
        have hx1 : wr.cell? ⟨g, j * 3 + 1, none⟩ = some (.int .i64 f1) := HCELL.out 1 _ (by decide) rfl
        have hx2 : wr.cell? ⟨g, j * 3 + 2, none⟩ = some (.int .i64 f2) := HCELL.out 2 _ (by decide) rfl
        go_upto_region 8 with (fail)
        generalize hW1 : (wr.alloc (.cells #[.int .i64 f0, .int .i64 f1, .int .i64 f2] 49)) = W1
        have BK1 : Aside0 (W1.heap[wr.heap.size]? = some (.cells #[.int .i64 f0, .int .i64 f1, .int .i64 f2] 49 (0, 0))) := ⟨by rw [← hW1]; exact blk_new _ _⟩
        have HG1 : Aside0 (w.grownBy W1 (some g)) := ⟨by rw [← hW1]; exact ⟨HG.out.os, HG.out.tape, HG.out.output, by have := HG.out.size; simp; omega, fun k hk hne => by rw [Below.heap_alloc _ _ _ (Nat.lt_of_lt_of_le hk HG.out.size)]; exact HG.out.block k hk hne⟩⟩
        have HR1 : Aside0 (row49 W1 g dk c) := ⟨by obtain ⟨cur, q1, q2, q3⟩ := HR.out; exact ⟨cur, by rw [← hW1]; exact blk_alloc q1 _, q2, q3⟩⟩
        have hsz : wr.heap.size < W1.heap.size := by rw [← hW1]; simp
        clear hW1 hx0 hx1 hx2
        have hb0 : W1.cell? ⟨wr.heap.size, 0, none⟩ = some (.int .i64 f0) := (blk_cell BK1.out 0).trans rfl
        have hb1 : W1.cell? ⟨wr.heap.size, 1, none⟩ = some (.int .i64 f1) := (blk_cell BK1.out 1).trans rfl
        have hb2 : W1.cell? ⟨wr.heap.size, 2, none⟩ = some (.int .i64 f2) := (blk_cell BK1.out 2).trans rfl
        have HCALL := Aside0.mk (HP.out W1 ⟨f0, f1, f2⟩ HG1.out)
        cases hq : p ⟨f0, f1, f2⟩ with
        | false =>
          have HQ := Aside0.mk hq
          have HCALL2 : Aside0 (Calls Try.prog G (#[.agg #[.int .i64 f0, .int .i64 f1, .int .i64 f2]] ++ lb) W1 fun e w' => e = .returned (.bool false) ∧ Below W1.heap.size W1 w') := ⟨by rw [← hq]; exact HCALL.out⟩
          clear hq HCALL
          have hi : Aside0 (i < dk.length) := ⟨by have := HD.out.len; have := hjl.out; omega⟩
          obtain ⟨⟨g0, g1, g2⟩, hg⟩ : ∃ y, y = dk[i]'hi.out := ⟨_, rfl⟩
          have HY := Aside0.mk hg
          clear hg
          have HSET : Aside0 (dk = dk.set i ⟨g0, g1, g2⟩) := ⟨by rw [HY.out]; exact (List.set_getElem_self hi.out).symm⟩
          go_wp2_with (go_at_fn G; refine HCALL2.out.mono ?_; rintro e W2 ⟨rfl, hb⟩; have HB2 := Aside0.mk hb; have BK2 := Aside0.mk (blk_below BK1.out hb); have HR2 : Aside0 (row49 W2 g dk c) := ⟨by obtain ⟨cur, q1, q2, q3⟩ := HR1.out; exact ⟨cur, blk_below q1 hb, q2, q3⟩⟩; clear hb hb0 hb1 hb2; have hb0 : W2.cell? ⟨wr.heap.size, 0, none⟩ = some (.int .i64 f0) := (blk_cell BK2.out 0).trans rfl; have hb1 : W2.cell? ⟨wr.heap.size, 1, none⟩ = some (.int .i64 f1) := (blk_cell BK2.out 1).trans rfl; have hb2 : W2.cell? ⟨wr.heap.size, 2, none⟩ = some (.int .i64 f2) := (blk_cell BK2.out 2).trans rfl; have hr0 : row49 W2 g (dk.set i ⟨g0, g1, g2⟩) c := (by rw [← HSET.out]; exact HR2.out); have ho0 : W2.cell? ⟨g, i * 3, none⟩ = some (.int .i64 g0) := row_cell49 hr0 hi.out 0 (by decide) _ rfl; have ho1 : W2.cell? ⟨g, i * 3 + 1, none⟩ = some (.int .i64 g1) := row_cell49 hr0 hi.out 1 (by decide) _ rfl; have ho2 : W2.cell? ⟨g, i * 3 + 2, none⟩ = some (.int .i64 g2) := row_cell49 hr0 hi.out 2 (by decide) _ rfl; clear hr0; have hf0 : W2.frozen? ⟨g, i * 3, none⟩ = false := row_frozen49 HR2.out _; have hf1 : W2.frozen? ⟨g, i * 3 + 1, none⟩ = false := row_frozen49 HR2.out _; have hf2 : W2.frozen? ⟨g, i * 3 + 2, none⟩ = false := row_frozen49 HR2.out _)
          go_roundg (n - (j + 1))
          case measure => omega
          case rel =>
            refine ⟨i + 1, j + 1, dk.set i ⟨f0, f1, f2⟩, by go_num, by go_num, by omega, Nat.le_refl _, ⟨?_⟩, ⟨?_⟩, ⟨?_⟩⟩
            · have := HD.out.keep hjl.out (by rw [← HX.out]; exact HQ.out)
              rw [← HX.out] at this
              exact this
            · have h0 := HR2.out
              rw [HSET.out] at h0
              have h1 := row_set49 h0 hi.out 0 (by decide) (.int .i64 f0) ⟨f0, g1, g2⟩ rfl
              have h2 := row_set49 h1 hi.out 1 (by decide) (.int .i64 f1) ⟨f0, f1, g2⟩ rfl
              exact row_set49 h2 hi.out 2 (by decide) (.int .i64 f2) ⟨f0, f1, f2⟩ rfl
            · have h1 : w.grownBy W2 (some g) := ⟨HB2.out.os.trans HG1.out.os, HB2.out.tape.trans HG1.out.tape, HB2.out.output.trans HG1.out.output, Nat.le_trans HG1.out.size HB2.out.size, fun k hk hne => (HB2.out.block k (Nat.lt_of_lt_of_le hk HG1.out.size)).trans (HG1.out.block k hk hne)⟩
              exact ⟨h1.os, h1.tape, h1.output, by simp; exact h1.size, fun k hk hne => by
                have hkg : k ≠ g := fun e => hne (by rw [e])
                rw [Below.heap_setCell _ _ _ _ hkg, Below.heap_setCell _ _ _ _ hkg, Below.heap_setCell _ _ _ _ hkg]
                exact h1.block k hk hne⟩
        | true =>
          have HQ := Aside0.mk hq
          have HCALL2 : Aside0 (Calls Try.prog G (#[.agg #[.int .i64 f0, .int .i64 f1, .int .i64 f2]] ++ lb) W1 fun e w' => e = .returned (.bool true) ∧ Below W1.heap.size W1 w') := ⟨by rw [← hq]; exact HCALL.out⟩
          clear hq HCALL
          go_wp2_with (go_at_fn G; refine HCALL2.out.mono ?_; rintro e W2 ⟨rfl, hb⟩; have HB2 := Aside0.mk hb; have HR2 : Aside0 (row49 W2 g dk c) := ⟨by obtain ⟨cur, q1, q2, q3⟩ := HR1.out; exact ⟨cur, blk_below q1 hb, q2, q3⟩⟩; clear hb hb0 hb1 hb2)
          go_roundg (n - (j + 1))
          case measure => omega
          case rel =>
            refine ⟨i, j + 1, dk, rfl, by go_num, by omega, Nat.le_refl _, ⟨?_⟩, HR2, ⟨?_⟩⟩
            · exact HD.out.skip hjl.out (by rw [← HX.out]; exact HQ.out)
            · exact ⟨HB2.out.os.trans HG1.out.os, HB2.out.tape.trans HG1.out.tape, HB2.out.output.trans HG1.out.output, Nat.le_trans HG1.out.size HB2.out.size, fun k hk hne => (HB2.out.block k (Nat.lt_of_lt_of_le hk HG1.out.size)).trans (HG1.out.block k hk hne)⟩
      · obtain rfl : j = n := by omega
        have hltz : ¬ ((j : Nat) : Int) < ((j : Nat) : Int) := by omega
        have hcne : ¬ c = i := by omega
        have hij2 : i ≤ j := by omega
        have hcl : ∃ w', (∀ ty, (Builtin.clear_ #[24] ty #[.slice (some ⟨g, i * 3, none⟩) (j - i) (c - i)]).run Try.prog wr = .ok (.tuple #[]) w') ∧ Aside0 (row49 w' g (l.filter (fun x => !p x)) c ∧ w.grownBy w' (some g)) := by
          obtain ⟨cur, q1, q2, q3⟩ := HR.out
          have hlen := HD.out.len
          have hfit : i * 3 + (j - i) * 3 ≤ cur.size := by rw [q2]; omega
          obtain ⟨w', r1, ⟨cur', r2, r3, r4⟩, r5⟩ := run_clear49 wr g (i * 3) (j - i) (c - i) cur q1 hfit (by omega)
          have hfl : l.filter (fun x => !p x) = dk.take i := by
            rw [HD.out.kept, List.take_of_length_le (by have := HN.out; omega)]
          refine ⟨w', r1, ⟨⟨cur', r2, r3.trans q2, ?_⟩, ⟨r5.os.trans HG.out.os, r5.tape.trans HG.out.tape, r5.output.trans HG.out.output, Nat.le_trans HG.out.size r5.size, fun k hk hne => (r5.block k (Nat.lt_of_lt_of_le hk HG.out.size) hne).trans (HG.out.block k hk hne)⟩⟩⟩
          rw [hfl, List.length_take, Nat.min_eq_left (by have := HN.out; omega), r4, Sl.flat_take flat49 w, ← q3, List.take_take, Nat.min_eq_left (by have := HN.out; show i * 3 ≤ _; omega)]
          rfl
        obtain ⟨w', hcl, HE⟩ := hcl
        have HNUM : Aside0 (i = (l.filter (fun x => !p x)).length) := ⟨by
          have := HD.out.num
          rw [List.take_of_length_le (by have := HN.out; omega)] at this
          exact this.symm⟩
        go_wp2_with (simp only [hcl])
        go_ret
        rw [← HNUM.out]
        exact ⟨rfl, HE.out.1, HE.out.2⟩
def quota_Trim.hasD (tick most : Int) (x : S49) (now : Int) : Int := (quota_has.f tick most x.f0 x.f1 x.f2 now).getD 0
def quota_Trim.f (k : Nat) (a0_0 a0_1 : Int) (l1 : List S49) (a2 : Int) : Option (List S49 × Int) :=
  (quota_right.f k a0_0 a0_1 l1 a2).bind fun t =>
    if t = true then (if l1.length ≤ 1000000 then some (l1.filter (fun x => !(quota_Trim.hasD a0_0 a0_1 x a2 == a0_1)), 0) else none) else some ([], 1)
theorem quota_Trim.mono : ∀ a0 a1 a2 a3 k, LeO (quota_Trim.f k a0 a1 a2 a3) (quota_Trim.f (k + 1) a0 a1 a2 a3) := by
  intro a0 a1 a2 a3 k
  unfold quota_Trim.f
  exact LeO.bind (quota_right.mono _ _ _ _ _) (fun _ => LeO.refl _)
theorem quota_Trim.has_is (tick most : Int) (x : S49) (now : Int) : quota_has.f tick most x.f0 x.f1 x.f2 now = some (quota_Trim.hasD tick most x now) := by
  unfold quota_Trim.hasD quota_has.f
  split <;> rfl
set_option maxHeartbeats 8000000 in
set_option maxRecDepth 100000 in
theorem quota_Trim.p1 (gb gn : Nat) (tick most now : Int) (W : World) (hb : W.heap[gb]? = some (.cells #[.int .i64 tick, .int .i64 most] 23 (0, 0))) (hn : W.heap[gn]? = some (.cells #[.int .i64 now] 3 (0, 0))) (x : S49) :
    Calls Try.prog 25 (#[.agg #[.int .i64 x.f0, .int .i64 x.f1, .int .i64 x.f2]] ++ #[.pointer (some ⟨gb, 0, none⟩), .pointer (some ⟨gn, 0, none⟩)]) W fun e w' => e = .returned (.bool (quota_Trim.hasD tick most x now == most)) ∧ Below W.heap.size W w' := by
  have hq := quota_Trim.has_is tick most x now
  obtain ⟨v, hv⟩ : ∃ v, v = quota_Trim.hasD tick most x now := ⟨_, rfl⟩
  rw [← hv] at hq ⊢
  obtain ⟨f0, f1, f2⟩ := x
  have HQ := Aside0.mk hq
  have HB := Aside0.mk hb
  have HN := Aside0.mk hn
  have hgl : gb < W.heap.size := blk_lt hb
  have hnl : gn < W.heap.size := blk_lt hn
  show Calls Try.prog 25 #[.agg #[.int .i64 f0, .int .i64 f1, .int .i64 f2], .pointer (some ⟨gb, 0, none⟩), .pointer (some ⟨gn, 0, none⟩)] W fun e w' => e = .returned (.bool (v == most)) ∧ Below W.heap.size W w'
  clear hq hv hb hn
  go_enter Try.func25, Try.ntmps25
  go_wp2_with (fail)
  have HX := Aside0.mk (blk_new W (.cells #[.int .i64 f0, .int .i64 f1, .int .i64 f2] 49))
  have hbl := Aside0.mk (below_alloc (Below.refl W.heap.size W) (.cells #[.int .i64 f0, .int .i64 f1, .int .i64 f2] 49))
  have hc0 : (W.alloc (.cells #[.int .i64 f0, .int .i64 f1, .int .i64 f2] 49)).cell? ⟨gb, 0, none⟩ = some (.int .i64 tick) := (blk_cell (blk_alloc HB.out _) 0).trans rfl
  have hc1 : (W.alloc (.cells #[.int .i64 f0, .int .i64 f1, .int .i64 f2] 49)).cell? ⟨gb, 1, none⟩ = some (.int .i64 most) := (blk_cell (blk_alloc HB.out _) 1).trans rfl
  have hc2 : (W.alloc (.cells #[.int .i64 f0, .int .i64 f1, .int .i64 f2] 49)).cell? ⟨gn, 0, none⟩ = some (.int .i64 now) := (blk_cell (blk_alloc HN.out _) 0).trans rfl
  have hc3 : (W.alloc (.cells #[.int .i64 f0, .int .i64 f1, .int .i64 f2] 49)).cell? ⟨W.heap.size, 0, none⟩ = some (.int .i64 f0) := (blk_cell HX.out 0).trans rfl
  have hc4 : (W.alloc (.cells #[.int .i64 f0, .int .i64 f1, .int .i64 f2] 49)).cell? ⟨W.heap.size, 1, none⟩ = some (.int .i64 f1) := (blk_cell HX.out 1).trans rfl
  have hc5 : (W.alloc (.cells #[.int .i64 f0, .int .i64 f1, .int .i64 f2] 49)).cell? ⟨W.heap.size, 2, none⟩ = some (.int .i64 f2) := (blk_cell HX.out 2).trans rfl
  have hsz : W.heap.size < (W.alloc (.cells #[.int .i64 f0, .int .i64 f1, .int .i64 f2] 49)).heap.size := by simp
  clear HX
  generalize W.alloc (.cells #[.int .i64 f0, .int .i64 f1, .int .i64 f2] 49) = W1 at *
  go_region_held3 (fun w' => w'.cell? ⟨gb, 0, none⟩ = some (.int .i64 tick) ∧ w'.cell? ⟨gb, 1, none⟩ = some (.int .i64 most) ∧ w'.cell? ⟨gn, 0, none⟩ = some (.int .i64 now) ∧ w'.cell? ⟨W.heap.size, 0, none⟩ = some (.int .i64 f0) ∧ w'.cell? ⟨W.heap.size, 1, none⟩ = some (.int .i64 f1) ∧ w'.cell? ⟨W.heap.size, 2, none⟩ = some (.int .i64 f2) ∧ Below W.heap.size W w' ∧ W.heap.size < w'.heap.size)
    (first
      | (exact ⟨hc0, hc1, hc2, hc3, hc4, hc5, hbl.out.drew, hsz⟩)
      | go_keep
      | (go_split_ands
         refine ⟨?_, ?_, ?_, ?_, ?_, ?_, ?_, ?_⟩
         · exact (hb.cell (p := ⟨gb, 0, none⟩) (by show gb < _; omega)).trans (by assumption)
         · exact (hb.cell (p := ⟨gb, 1, none⟩) (by show gb < _; omega)).trans (by assumption)
         · exact (hb.cell (p := ⟨gn, 0, none⟩) (by show gn < _; omega)).trans (by assumption)
         · exact (hb.cell (p := ⟨W.heap.size, 0, none⟩) (by show W.heap.size < _; omega)).trans (by assumption)
         · exact (hb.cell (p := ⟨W.heap.size, 1, none⟩) (by show W.heap.size < _; omega)).trans (by assumption)
         · exact (hb.cell (p := ⟨W.heap.size, 2, none⟩) (by show W.heap.size < _; omega)).trans (by assumption)
         · exact Below.trans (by assumption) (hb.mono (by omega))
         · exact Nat.lt_of_lt_of_le (by assumption) hb.size))
    (first | (go_at_call 21; refine (quota_has.calls tick most f0 f1 f2 now v _ HQ.out).mono ?_; rintro e w' ⟨rfl, hb⟩))
  rename_i hH
  have HB9 := Aside0.mk hH.2.2.2.2.2.2.1
  clear hH hb
  go_wp2
  go_ret
  exact ⟨rfl, HB9.out⟩
set_option maxHeartbeats 8000000 in
set_option maxRecDepth 100000 in
theorem quota_Trim.del0 (G : Nat) (lb : Array Value) (p : S49 → Bool) (eg : ∀ args w, (callFunc G args).run Try.prog w = .ok (.enter G args) w) (A : Option Addr) (c : Nat) (w : World) (hr : Kd.C k49 w A 0 [])
    (hp : ∀ (W : World) (x : S49), Below w.heap.size w W → Calls Try.prog G (#[.agg #[.int .i64 x.f0, .int .i64 x.f1, .int .i64 x.f2]] ++ lb) W fun e w' => e = .returned (.bool (p x)) ∧ Below w.heap.size w w') :
    Calls Try.prog 24 #[.slice A 0 c, .func (.func G) #[] lb] w fun e w' => e = .returned (.slice A 0 c) ∧ Below w.heap.size w w' := by
  have HI := Aside0.mk (idx49 G lb p eg A c [] w hr (Nat.zero_le _) hp)
  clear hr hp
  rw [show idxB49 p [] 0 = -1 from rfl] at HI
  go_enter Try.func24, Try.ntmps24
  go_wp2_with (fail)
  refine HI.out.mono ?_
  rintro e w1 ⟨rfl, hb⟩
  have HB := Aside0.mk hb
  clear hb
  go_wp2
  go_ret
  exact ⟨rfl, HB.out⟩
set_option maxHeartbeats 8000000 in
set_option maxRecDepth 100000 in
theorem quota_Trim.calls (k : Nat) (a0_0 : Int) (a0_1 : Int) (A1 : Option Addr) (c1 : Nat) (l1 : List S49) (a2 : Int) (r1 : List S49) (r2 : Int) (w : World) (hr1 : Kd.C k49 w A1 l1.length l1) (hc1 : l1.length ≤ c1) (h : quota_Trim.f k a0_0 a0_1 l1 a2 = some (r1, r2)) :
    Calls Try.prog 14 #[.agg #[.int .i64 a0_0, .int .i64 a0_1], .slice A1 l1.length c1, .int .i64 a2] w fun e w' => ∃ v0_ : Value, e = .returned (.tuple #[v0_, .int .i64 r2]) ∧ Kd.R k49 49 w' w.heap.size (fun _ => True) v0_ r1 ∧ Below w.heap.size w w' := by
  have HR := Aside0.mk hr1
  have HC := Aside0.mk hc1
  have HB0 := Aside0.mk (Below.refl w.heap.size w)
  clear hr1 hc1
  obtain ⟨tr, htr, h⟩ := Option.bind_eq_some_iff.mp h
  have A0 := Aside0.mk htr
  clear htr
  cases tr with
  | false =>
    rw [if_neg (by decide)] at h
    injection h with h
    injection h with h1 h2
    subst h1
    have HE2 := Aside0.mk h2
    clear h2
    have huRate := Try.underlying23
    go_enter Try.func14, Try.ntmps14
    go_wp2_with (fail)
    obtain ⟨W1, hW1⟩ : ∃ W1, W1 = (w.alloc (.cells #[.int .i64 a0_0, .int .i64 a0_1] 23)).alloc (.cells #[.int .i64 a2] 3) := ⟨_, rfl⟩
    have BK1 : Aside0 (W1.heap[w.heap.size]? = some (.cells #[.int .i64 a0_0, .int .i64 a0_1] 23 (0, 0))) := ⟨by rw [hW1]; exact blk_alloc (blk_new _ _) _⟩
    have BN1 : Aside0 (W1.heap[w.heap.size + 1]? = some (.cells #[.int .i64 a2] 3 (0, 0))) := ⟨by rw [hW1]; have := blk_new (w.alloc (.cells #[.int .i64 a0_0, .int .i64 a0_1] 23)) (.cells #[.int .i64 a2] 3); rwa [World.size_alloc] at this⟩
    have HB1 : Aside0 (Below w.heap.size w W1) := ⟨by rw [hW1]; exact below_alloc (below_alloc (Below.refl _ _) _) _⟩
    rw [← hW1]
    clear hW1
    refine (quota_right.calls k a0_0 a0_1 _ _ l1 a2 _ _ (Kd.C_below HR.out HB1.out) HC.out A0.out).mono ?_
    rintro e W2 ⟨rfl, hb⟩
    have HB2 := Aside0.mk (below_step HB1.out hb)
    have BK2 := Aside0.mk (blk_below BK1.out hb)
    have BN2 := Aside0.mk (blk_below BN1.out hb)
    clear hb BK1 BN1 HB1
    go_wp2
    go_ret2
    exact ⟨_, by rw [← HE2.out]; rfl, Kd.R_nil _ _ _ _ _, HB2.out⟩
  | true =>
    rw [if_pos rfl] at h
    split at h
    case isFalse => cases h
    rename_i hlen
    injection h with h
    injection h with h1 h2
    have HE1 := Aside0.mk h1
    have HE2 := Aside0.mk h2
    have HL := Aside0.mk hlen
    clear h1 h2
    have eg : Aside0 (∀ args w, (callFunc 25 args).run Try.prog w = .ok (.enter 25 args) w) := ⟨enters_of Try.func25 (by kernel_rfl) rfl⟩
    clear hlen
    have huRate := Try.underlying23
    go_enter Try.func14, Try.ntmps14
    go_wp2_with (fail)
    obtain ⟨W1, hW1⟩ : ∃ W1, W1 = (w.alloc (.cells #[.int .i64 a0_0, .int .i64 a0_1] 23)).alloc (.cells #[.int .i64 a2] 3) := ⟨_, rfl⟩
    have BK1 : Aside0 (W1.heap[w.heap.size]? = some (.cells #[.int .i64 a0_0, .int .i64 a0_1] 23 (0, 0))) := ⟨by rw [hW1]; exact blk_alloc (blk_new _ _) _⟩
    have BN1 : Aside0 (W1.heap[w.heap.size + 1]? = some (.cells #[.int .i64 a2] 3 (0, 0))) := ⟨by rw [hW1]; have := blk_new (w.alloc (.cells #[.int .i64 a0_0, .int .i64 a0_1] 23)) (.cells #[.int .i64 a2] 3); rwa [World.size_alloc] at this⟩
    have HB1 : Aside0 (Below w.heap.size w W1) := ⟨by rw [hW1]; exact below_alloc (below_alloc (Below.refl _ _) _) _⟩
    rw [← hW1]
    clear hW1
    refine (quota_right.calls k a0_0 a0_1 _ _ l1 a2 _ _ (Kd.C_below HR.out HB1.out) HC.out A0.out).mono ?_
    rintro e W2 ⟨rfl, hb⟩
    have HB2 := Aside0.mk (below_step HB1.out hb)
    have BK2 := Aside0.mk (blk_below BK1.out hb)
    have BN2 := Aside0.mk (blk_below BN1.out hb)
    clear hb BK1 BN1 HB1
    go_wp2_with (fail)
    refine (clone49 _ _ l1 _ (Kd.C_below HR.out HB2.out) HC.out (by have := HL.out; omega)).mono ?_
    rintro e W3 ⟨v1, rfl, hr, hb⟩
    have HB3 := Aside0.mk (below_step HB2.out hb)
    have BK3 := Aside0.mk (blk_below BK2.out hb)
    have BN3 := Aside0.mk (blk_below BN2.out hb)
    have HZ2 : Aside0 (w.heap.size + 1 < W2.heap.size) := ⟨blk_lt BN2.out⟩
    clear hb
    obtain ⟨A4, c4, rfl⟩ := Kd.R_slice hr
    have HR3 := Aside0.mk hr
    clear hr
    by_cases h0 : 0 < l1.length
    · obtain ⟨g, c, cur, hv, hg1, hg2, hg3, hg4, hg5, hg6⟩ := Sl.R_open flat49 HR3.out h0
      injection hv with hv1 _ hv2
      subst hv1
      subst hv2
      have HROW : Aside0 (row49 W3 g l1 c4) := ⟨⟨cur, hg2, hg5, hg6⟩⟩
      have HG1 := Aside0.mk hg1
      have HG3 := Aside0.mk hg3
      have HG4 := Aside0.mk hg4
      clear hg1 hg2 hg3 hg4 hg5 hg6
      have HP : Aside0 (∀ (W : World) (x : S49), W3.grownBy W (some g) → Calls Try.prog 25 (#[.agg #[.int .i64 x.f0, .int .i64 x.f1, .int .i64 x.f2]] ++ #[.pointer (some ⟨w.heap.size, 0, none⟩), .pointer (some ⟨w.heap.size + 1, 0, none⟩)]) W fun e w' => e = .returned (.bool (quota_Trim.hasD a0_0 a0_1 x a2 == a0_1)) ∧ Below W.heap.size W w') := ⟨fun W x hgr => by
        have h1 := HZ2.out
        have h2 := HG1.out
        refine quota_Trim.p1 _ _ _ _ _ W ((hgr.block _ (blk_lt BK3.out) (fun e => by injection e with e; omega)).trans BK3.out) ((hgr.block _ (blk_lt BN3.out) (fun e => by injection e with e; omega)).trans BN3.out) x⟩
      have HD := Aside0.mk (del49 25 #[.pointer (some ⟨w.heap.size, 0, none⟩), .pointer (some ⟨w.heap.size + 1, 0, none⟩)] (fun x => quota_Trim.hasD a0_0 a0_1 x a2 == a0_1) eg.out g c4 l1 W3 HROW.out HG3.out HG4.out h0 HP.out)
      clear h0
      go_wp2_with (fail)
      refine HD.out.mono ?_
      rintro e W4 ⟨rfl, hrow, hgr⟩
      have HROW4 := Aside0.mk hrow
      have HGR := Aside0.mk hgr
      clear hrow hgr
      go_wp2
      go_ret2
      refine ⟨_, by rw [← HE2.out]; rfl, ?_, ?_⟩
      · rw [← HE1.out]
        refine row_R49 HROW4.out (Nat.le_trans (by have := HZ2.out; omega) HG1.out) ?_ HG4.out
        exact Nat.le_trans (List.length_filter_le _ _) HG3.out
      · have := HB3.out
        exact ⟨HGR.out.os.trans this.os, HGR.out.tape.trans this.tape, HGR.out.output.trans this.output, Nat.le_trans this.size HGR.out.size, fun j hj => (HGR.out.block j (Nat.lt_of_lt_of_le hj this.size) (fun e => by injection e with e; have h1 := HG1.out; have h2 := HZ2.out; omega)).trans (this.block j hj)⟩
    · have hl : l1 = [] := List.eq_nil_of_length_eq_zero (by omega)
      subst hl
      have HC3 : Aside0 (Kd.C k49 W3 A4 0 []) := ⟨by
        obtain ⟨A', c', h1, _, h2⟩ := Kd.R_reads HR3.out
        injection h1 with e1 _ _
        rw [← e1] at h2
        exact h2⟩
      have HP : Aside0 (∀ (W : World) (x : S49), Below W3.heap.size W3 W → Calls Try.prog 25 (#[.agg #[.int .i64 x.f0, .int .i64 x.f1, .int .i64 x.f2]] ++ #[.pointer (some ⟨w.heap.size, 0, none⟩), .pointer (some ⟨w.heap.size + 1, 0, none⟩)]) W fun e w' => e = .returned (.bool (quota_Trim.hasD a0_0 a0_1 x a2 == a0_1)) ∧ Below W3.heap.size W3 w') := ⟨fun W x hgr => by
        refine (quota_Trim.p1 _ _ _ _ _ W (blk_below BK3.out hgr) (blk_below BN3.out hgr) x).mono ?_
        exact fun e w' h => ⟨h.1, hgr.trans (h.2.mono hgr.size)⟩⟩
      have HD := Aside0.mk (quota_Trim.del0 25 #[.pointer (some ⟨w.heap.size, 0, none⟩), .pointer (some ⟨w.heap.size + 1, 0, none⟩)] (fun x => quota_Trim.hasD a0_0 a0_1 x a2 == a0_1) eg.out A4 c4 W3 HC3.out HP.out)
      clear h0
      go_wp2_with (fail)
      refine HD.out.mono ?_
      rintro e W4 ⟨rfl, hb⟩
      have HB4 := Aside0.mk (below_step HB3.out hb)
      have HR4 := Aside0.mk (Kd.R_below HR3.out hb)
      clear hb
      go_wp2
      go_ret2
      refine ⟨_, by rw [← HE2.out]; rfl, ?_, HB4.out⟩
      rw [← HE1.out]
      exact Kd.R_lower HR4.out HB2.out.size

end Go.Proofs.Ytkelkigkoceljaa.P
