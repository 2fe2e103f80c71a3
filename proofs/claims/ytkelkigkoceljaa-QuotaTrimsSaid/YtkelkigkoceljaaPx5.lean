-- Written by wip/mk.py of this repo: the kit's print program, with contracts of our own among its functions.
import Derived.Test.YtkelkigkoceljaaPx0
import Derived.Test.YtkelkigkoceljaaPx3
import Derived.Test.YtkelkigkoceljaaPx4
namespace Go.Proofs.Ytkelkigkoceljaa.P
open Go.RowKit Go.Proofs.YtkelkigkoceljaaW.PrintWords Go.Proofs.YtkelkigkoceljaaW.PrintLast Go.Proofs.YtkelkigkoceljaaW.PrintMore
attribute [local go_sem] max2_int min2_int max_two min_two max_three min_three max_four min_four   -- for this text's walks alone
set_option linter.unusedVariables false
set_option linter.unusedSimpArgs false

/-! ### quota_Take: function 9 -/
set_option maxHeartbeats 4000000 in
set_option maxRecDepth 100000 in
/-- slices.Insert of one element: at the end. -/
theorem insE49 (base : Nat) (v : Value) (l : List S49) (x : S49) (vb : Nat) (tv : TypeId) (w : World)
    (hR : Kd.R k49 49 w base (fun _ => True) v l) (hb : base ≤ w.heap.size) (hlen : (l.length + 1) * 24 ≤ 140737488355328)
    (hvb : w.heap[vb]? = some (.cells (enc49 x).toArray tv (0, 0))) :
    Calls Try.prog 20 #[v, .int .i64 l.length, .slice (some ⟨vb, 0, none⟩) 1 1] w fun e w' => ∃ v1, e = .returned v1 ∧ Kd.R k49 49 w' base (fun _ => True) v1 (l ++ [x]) ∧ w.grownBy w' v.ownBlock ∧ (v1.ownBlock = v.ownBlock ∨ ∃ b, v1.ownBlock = some b ∧ w.heap.size ≤ b) := by
  have HR := Aside0.mk hR
  have HV := Aside0.mk (Sl.row_one flat49 x hvb)
  obtain ⟨A, c, rfl⟩ := Kd.R_slice hR
  have hlc : l.length ≤ c := by obtain ⟨A', c', h1, h2, _⟩ := Kd.R_reads hR; injection h1 with _ _ h3; omega
  have huS := Try.underlying24
  clear hR hvb
  obtain ⟨ob, hob⟩ : ∃ ob, ob = (Value.slice A l.length c).ownBlock := ⟨_, rfl⟩
  rw [← hob]
  have HOB := Aside0.mk hob
  clear hob
  by_cases hcl : c = l.length
  case' pos => subst hcl
  all_goals
    go_enter Try.func20, Try.ntmps20
    go_wp2_with (at_builtin; refine Kd.R_append_rows k49 (Rr := k49.K w) (w0 := w) base rfl _ _ _ 49 (.agg #[(.int .i64 0), (.int .i64 0), (.int .i64 0)]) 24 rfl huS (by kernel_rfl) rfl (by decide) (by decide) _ l [x] (some ⟨vb, 0, none⟩) 1 1 (fun _ => True) (fun _ => False) rfl rfl HR.out HV.out (fun x cs hx => by rw [(flat49.k _ _ _).1 hx]; exact (flat49.m _ _ _ _ _).2 rfl) (fun _ hk => hk.elim) (fun _ _ => trivial) (Below.refl _ _) hb hlen ?_; intro v1 w1 hR1 _ hg1 ha1; have HR1 := Aside0.mk hR1; have HG1 : Aside0 (w.grownBy w1 ob) := ⟨HOB.out ▸ hg1⟩; have HA1 : Aside0 (v1.ownBlock = ob ∨ ∃ b, v1.ownBlock = some b ∧ w.heap.size ≤ b) := ⟨HOB.out ▸ ha1⟩; clear hR1 hg1 ha1)
    go_ret
    exact ⟨_, rfl, HR1.out, HG1.out, HA1.out⟩
set_option maxHeartbeats 4000000 in
set_option maxRecDepth 100000 in
/-- .. inside, no room: a new row. -/
theorem insG49 (base : Nat) (g c : Nat) (cur : Array Value) (l : List S49) (i : Nat) (x : S49) (vb : Nat) (tv : TypeId) (w : World)
    (hg : w.heap[g]? = some (.cells cur 49 (0, 0))) (hcur : cur.toList.take (l.length * 3) = l.flatMap enc49) (hcs : cur.size = c * 3) (hb : base ≤ w.heap.size) (hlen : (l.length + 1) * 24 ≤ 140737488355328) (hi : i < l.length) (hlc : l.length ≤ c) (hc : c < l.length + 1)
    (hvb : w.heap[vb]? = some (.cells (enc49 x).toArray tv (0, 0))) :
    Calls Try.prog 20 #[.slice (some ⟨g, 0, none⟩) l.length c, .int .i64 i, .slice (some ⟨vb, 0, none⟩) 1 1] w fun e w' => ∃ v1, e = .returned v1 ∧ Kd.R k49 49 w' base (fun _ => True) v1 (l.take i ++ x :: l.drop i) ∧ Below w.heap.size w w' ∧ (∃ b, v1.ownBlock = some b ∧ w.heap.size ≤ b) := by
  have HG := Aside0.mk hg
  have HV := Aside0.mk hvb
  have HCUR := Aside0.mk hcur
  have HCS := Aside0.mk hcs
  have huS := Try.underlying24
  have hui := Try.underlying3
  obtain ⟨n, hn⟩ : ∃ n, n = l.length := ⟨_, rfl⟩
  rw [← hn] at hlen hi hlc hc ⊢
  have HN := Aside0.mk hn
  clear hg hvb hcur hcs hn
  have hz1 : ((i : Int) == (n : Int)) = false := by rw [beq_eq_false_iff_ne]; omega
  have hz2 : ¬ (c = i) := by omega
  have hz3 : (c : Int) < (n : Int) + 1 := by omega
  have hz3b : decide ((c : Int) < (n : Int) + 1) = true := by rw [decide_eq_true_iff]; omega
  have hin : i ≤ n := by omega
  have hi0 : (0 : Int) ≤ (i : Int) := by omega
  go_enter Try.func20, Try.ntmps20
  have HM1 : Aside0 (Nat.min 1 (n + 1 - i) = 1) := ⟨Nat.min_eq_left (by omega)⟩
  have HXL : Aside0 ((enc49 x).length = 3) := ⟨rfl⟩
  go_wp2_with (first | (at_builtin; refine Sl.wpList_zerosK rfl _ _ 24 3 49 (.agg #[(.int .i64 0), (.int .i64 0), (.int .i64 0)]) 3 24 rfl huS hui (by kernel_rfl) rfl (by decide) (by decide) g i c rfl (n + 1 - i) rfl (by omega) cur 49 HG.out ?c1 (by omega) (by omega) (by omega) (n + 1) (by omega) ?_; (case c1 => have h9 := HCS.out; omega); intro w1 G cur1 HF1 HG1 HB1; obtain ⟨F1, F2, F3, F4⟩ := HF1.out; have HF3 := Aside0.mk F3; have HF4 := Aside0.mk F4; clear HF1 F3 F4; have hz4 : ¬ (G = i) := (by omega); have hz5 : ¬ (G = i + 1) := (by omega)) | ((with_reducible refine gate_builtin (b := .copy) rfl ?_); go_loud (refine Sl.wpList_copyK rfl _ _ 24 24 rfl 49 huS 3 (by kernel_rfl) w.heap.size (i * 3) _ _ ⟨vb, 0, none⟩ 1 1 rfl rfl cur1 49 HG1.out (enc49 x) (by rw [HM1.out]; rfl) (fun j u hu => by rw [add_plain, blk_cell (blk_below HV.out HB1.out)]; simpa using hu) (by rw [HXL.out, HF3.out]; omega) (flat49.one w x) ?_; intro w2 HG2 HGr2)))
  have HB12 : Aside0 (w2.heap[g]? = some (.cells cur 49 (0, 0))) := ⟨(HGr2.out.block g (by have := blk_lt (blk_below HG.out HB1.out); exact this) (by have := blk_lt HG.out; simp; omega)).trans (blk_below HG.out HB1.out)⟩
  have HDL : Aside0 (((l.drop i).flatMap enc49).length = (n - i) * 3) := ⟨by rw [flat49.flen w, List.length_drop, HN.out]; rfl⟩
  have HSRC : Aside0 (∀ j u, ((l.drop i).flatMap enc49)[j]? = some u → w2.cell? ((⟨g, i * 3, none⟩ : Addr).add j) = some u) := ⟨fun j u hu => by
    rw [Addr.add_lit, blk_cell HB12.out]
    rw [Sl.flat_drop flat49 w, ← HCUR.out, List.drop_take, List.getElem?_take] at hu
    split at hu
    · rw [List.getElem?_drop] at hu
      rw [← Array.getElem?_toList]; exact hu
    · cases hu⟩
  have hw1 : IntKind.i64.wrap ((i : Int) + 1) = (i : Int) + 1 := by rw [IntKind.wrap_i64]; omega
  have hb1 : (0 : Int) ≤ (i : Int) + 1 := by omega
  have htn : ((i : Int) + 1).toNat = i + 1 := by omega
  have hb3 : (i : Int) ≤ (n : Int) := by omega
  have HM2 : Aside0 (Nat.min (n - i) (n - i) = n - i) := ⟨Nat.min_self _⟩
  have HFIT : Aside0 ((i + 1) * 3 + ((l.drop i).flatMap enc49).length ≤ (cur1.toList.take (i * 3) ++ enc49 x ++ cur1.toList.drop (i * 3 + (enc49 x).length)).toArray.size) := ⟨by
    rw [List.size_toArray, Sl.len_splice _ _ _ (by rw [HXL.out, Array.length_toList, HF3.out]; omega), HDL.out, Array.length_toList, HF3.out]; omega⟩
  go_region_law (refine Sl.step_copyK (w := w2.drew) rfl (.tmp 50) (.tmp 53) 24 24 rfl 49 huS 3 (by kernel_rfl) w.heap.size ((i + 1) * 3) (n - i) (G - (i + 1)) ⟨g, i * 3, none⟩ (n - i) (c - i) (by simp [Act.eval, Act.put]) (by simp [Act.eval, Act.put]) (cur1.toList.take (i * 3) ++ enc49 x ++ cur1.toList.drop (i * 3 + (enc49 x).length)).toArray 49 HG2.out ((l.drop i).flatMap enc49) (by rw [HDL.out, HM2.out]) HSRC.out HFIT.out (flat49.fone w _) ?_; intro w3 HG3 HGr3)
  clear hw1 hb1 htn hb3 HFIT HSRC
  go_wp2
  go_ret
  have hB2 : Below w.heap.size w w2 := HB1.out.grown HGr2.out HB1.out.size (fun k hk => by injection hk with hk; omega)
  have hB3 : Below w.heap.size w w3 := (below_drew hB2).grown HGr3.out hB2.size (fun k hk => by injection hk with hk; omega)
  refine ⟨_, rfl, ?_, hB3, ⟨w.heap.size, rfl, Nat.le_refl _⟩⟩
  have hil : i ≤ l.length := by rw [← HN.out]; exact hin
  have h4 : cur1.toList.take (i * k49.sz) = (l.take i).flatMap enc49 := by
    rw [Sl.flat_take flat49 w, ← HCUR.out, List.take_take, Nat.min_eq_left (by rw [← HN.out]; exact Nat.mul_le_mul_right _ hin)]
    exact HF4.out
  obtain ⟨h5, h6⟩ := Sl.ins_new flat49 w cur1.toList l i x hil h4 (by have h9 : cur1.toList.length = G * 3 := Array.length_toList.trans HF3.out; rw [h9, ← HN.out]; exact Nat.mul_le_mul_right _ F1)
  have h7 := HG3.out
  have h8 := Sl.flat_ins flat49 w l i x hil
  have := Sl.R_block (ok := fun _ => True) (cap := G) (xs := l.take i ++ x :: l.drop i) flat49 hb h7 trivial (by rw [h8, ← HN.out]; exact F1) F2 (by rw [List.size_toArray]; refine Eq.trans h6 ?_; exact (Array.length_toList.trans HF3.out)) (by rw [h8]; exact h5)
  rw [h8, ← HN.out] at this
  exact this
set_option maxHeartbeats 4000000 in
set_option maxRecDepth 100000 in
/-- .. inside, there is room: in place. -/
theorem insR49 (base : Nat) (g c : Nat) (cur : Array Value) (l : List S49) (i : Nat) (x : S49) (vb : Nat) (tv : TypeId) (w : World)
    (hg : w.heap[g]? = some (.cells cur 49 (0, 0))) (hcur : cur.toList.take (l.length * 3) = l.flatMap enc49) (hcs : cur.size = c * 3) (hbg : base ≤ g) (hi : i < l.length) (hlc : l.length + 1 ≤ c) (hc63 : c ≤ 9223372036854775807)
    (hvb : w.heap[vb]? = some (.cells (enc49 x).toArray tv (0, 0))) (hne : vb ≠ g) :
    Calls Try.prog 20 #[.slice (some ⟨g, 0, none⟩) l.length c, .int .i64 i, .slice (some ⟨vb, 0, none⟩) 1 1] w fun e w' => ∃ v1, e = .returned v1 ∧ Kd.R k49 49 w' base (fun _ => True) v1 (l.take i ++ x :: l.drop i) ∧ w.grownBy w' (some g) ∧ v1.ownBlock = some g := by
  have HG := Aside0.mk hg
  have HV := Aside0.mk hvb
  have HCUR := Aside0.mk hcur
  have HCS := Aside0.mk hcs
  have huS := Try.underlying24
  have hui := Try.underlying3
  have hov : ∀ lb cb, (callFunc 26 #[.slice (some ⟨vb, 0, none⟩) 1 1, .slice (some ⟨g, (i + 1) * 3, none⟩) lb cb]).run Try.prog w = .ok (.value (.bool false)) w := fun lb cb => by
    rw [run_callFunc_extern Try.func26 (by kernel_rfl) (by kernel_rfl) (by kernel_rfl) (e := Extern.SlicesOverlaps.overlaps #[24, 24] #[4]) (by kernel_rfl),
      Lib.run_overlaps_apart w 24 4 49 huS 3 Try.sizeOf49 ⟨vb, 0, none⟩ ⟨g, (i + 1) * 3, none⟩ 1 1 lb cb hne tv 49 3 cur.size (by simp [World.shape?, hvb]; rfl) (by simp [World.shape?, hg]) (by rw [hcs]; omega) (blk_frozen hvb 0) (blk_frozen hvb _)]
    rfl
  obtain ⟨n, hn⟩ : ∃ n, n = l.length := ⟨_, rfl⟩
  rw [← hn] at hi hlc ⊢
  have HN := Aside0.mk hn
  clear hg hvb hcur hcs hn
  have hz1 : ((i : Int) == (n : Int)) = false := by rw [beq_eq_false_iff_ne]; omega
  have hz2 : ¬ (c = i) := by omega
  have hz3 : ¬ ((c : Int) < (n : Int) + 1) := by omega
  have hz3b : decide ((c : Int) < (n : Int) + 1) = false := by rw [decide_eq_false_iff_not]; omega
  have hin : i ≤ n := by omega
  have hi0 : (0 : Int) ≤ (i : Int) := by omega
  have hz4 : ¬ (c = i + 1) := by omega
  have HM1 : Aside0 (Nat.min 1 (n + 1 - i) = 1) := ⟨Nat.min_eq_left (by omega)⟩
  have HXL : Aside0 ((enc49 x).length = 3) := ⟨rfl⟩
  go_enter Try.func20, Try.ntmps20
  go_wp2_with (simp only [hov])
  have HDL : Aside0 (((l.drop i).flatMap enc49).length = (n - i) * 3) := ⟨by rw [flat49.flen w, List.length_drop, HN.out]; rfl⟩
  have HSRC : Aside0 (∀ j u, ((l.drop i).flatMap enc49)[j]? = some u → w.cell? ((⟨g, i * 3, none⟩ : Addr).add j) = some u) := ⟨fun j u hu => by
    rw [Addr.add_lit, blk_cell HG.out]
    rw [Sl.flat_drop flat49 w, ← HCUR.out, List.drop_take, List.getElem?_take] at hu
    split at hu
    · rw [List.getElem?_drop] at hu
      rw [← Array.getElem?_toList]; exact hu
    · cases hu⟩
  have HM2 : Aside0 (Nat.min (n + 1 - i) (n - i) = n - i) := ⟨Nat.min_eq_right (by omega)⟩
  have HFIT : Aside0 ((i + 1) * 3 + ((l.drop i).flatMap enc49).length ≤ cur.size) := ⟨by rw [HDL.out, HCS.out]; omega⟩
  have hw1 : IntKind.i64.wrap ((i : Int) + 1) = (i : Int) + 1 := by rw [IntKind.wrap_i64]; omega
  have hb1 : (0 : Int) ≤ (i : Int) + 1 := by omega
  have htn : ((i : Int) + 1).toNat = i + 1 := by omega
  have hb3 : (i : Int) ≤ (n : Int) := by omega
  have hb4 : (i : Int) ≤ (n : Int) + 1 := by omega
  go_region_law (refine Sl.step_copyK (w := w.drew) rfl (.tmp 73) (.tmp 76) 24 24 rfl 49 huS 3 (by kernel_rfl) g ((i + 1) * 3) (n - i) (c - (i + 1)) ⟨g, i * 3, none⟩ (n + 1 - i) (c - i) (by simp [Act.eval, Act.put]) (by simp [Act.eval, Act.put]) cur 49 HG.out ((l.drop i).flatMap enc49) (by rw [HDL.out, HM2.out]) HSRC.out HFIT.out (flat49.fone w _) ?_; intro w1 HG1 HGr1)
  clear hw1 hb1 htn hb3 HSRC hov
  have HV1 : Aside0 (w1.heap[vb]? = some (.cells (enc49 x).toArray tv (0, 0))) := ⟨(HGr1.out.block vb (blk_lt HV.out) (fun e => hne (Option.some.inj e))).trans HV.out⟩
  have HFIT2 : Aside0 (i * 3 + (enc49 x).length ≤ (cur.toList.take ((i + 1) * 3) ++ (l.drop i).flatMap enc49 ++ cur.toList.drop ((i + 1) * 3 + ((l.drop i).flatMap enc49).length)).toArray.size) := ⟨by
    rw [List.size_toArray, Sl.len_splice _ _ _ (by have := HFIT.out; rwa [Array.length_toList]), HXL.out, Array.length_toList, HCS.out]; omega⟩
  go_wp2_with ((with_reducible refine gate_builtin (b := .copy) rfl ?_); go_loud (refine Sl.wpList_copyK rfl _ _ 24 24 rfl 49 huS 3 (by kernel_rfl) g (i * 3) _ _ ⟨vb, 0, none⟩ 1 1 rfl rfl _ 49 HG1.out (enc49 x) (by rw [HM1.out]; rfl) (fun j u hu => by rw [add_plain, blk_cell HV1.out]; simpa using hu) HFIT2.out (flat49.one w x) ?_; intro w2 HG2 HGr2))
  go_ret
  have hgr : w.grownBy w2 (some g) := ⟨HGr2.out.os.trans HGr1.out.os, HGr2.out.tape.trans HGr1.out.tape, HGr2.out.output.trans HGr1.out.output, Nat.le_trans HGr1.out.size HGr2.out.size, fun k hk hne => (HGr2.out.block k (Nat.lt_of_lt_of_le hk HGr1.out.size) hne).trans (HGr1.out.block k hk hne)⟩
  refine ⟨_, rfl, ?_, hgr, rfl⟩
  have hil : i ≤ l.length := by rw [← HN.out]; exact hin
  have h4 : cur.toList.take (i * k49.sz) = (l.take i).flatMap enc49 := by
    rw [Sl.flat_take flat49 w, ← HCUR.out, List.take_take, Nat.min_eq_left (by rw [← HN.out]; exact Nat.mul_le_mul_right _ hin)]
  have h9 : cur.toList.length = c * 3 := Array.length_toList.trans HCS.out
  obtain ⟨h5, h6⟩ := Sl.ins_old flat49 w cur.toList l i x hil h4 (by rw [h9, ← HN.out]; exact Nat.mul_le_mul_right _ hlc)
  have h7 := HG2.out
  have h8 := Sl.flat_ins flat49 w l i x hil
  have := Sl.R_block (ok := fun _ => True) (cap := c) (xs := l.take i ++ x :: l.drop i) flat49 hbg h7 trivial (by rw [h8, ← HN.out]; exact hlc) hc63 (by rw [List.size_toArray]; refine Eq.trans h6 ?_; exact h9) (by rw [h8]; exact h5)
  rw [h8, ← HN.out] at this
  exact this
/-- slices.Insert of one element, whatever the room. -/
theorem ins49 (base : Nat) (v : Value) (l : List S49) (i : Nat) (x : S49) (vb : Nat) (tv : TypeId) (w : World)
    (hR : Kd.R k49 49 w base (fun _ => True) v l) (hb : base ≤ w.heap.size) (hi : i ≤ l.length) (hlen : (l.length + 1) * 24 ≤ 140737488355328)
    (hvb : w.heap[vb]? = some (.cells (enc49 x).toArray tv (0, 0))) (hne : v.ownBlock ≠ some vb) :
    Calls Try.prog 20 #[v, .int .i64 i, .slice (some ⟨vb, 0, none⟩) 1 1] w fun e w' => ∃ v1, e = .returned v1 ∧ Kd.R k49 49 w' base (fun _ => True) v1 (l.take i ++ x :: l.drop i) ∧ w.grownBy w' v.ownBlock ∧ (v1.ownBlock = v.ownBlock ∨ ∃ b, v1.ownBlock = some b ∧ w.heap.size ≤ b) := by
  rcases Nat.lt_or_ge i l.length with h | h
  · obtain ⟨g, c, cur, rfl, hg1, hg2, hg3, hg4, hg5, hg6⟩ := Sl.R_open flat49 hR (by omega)
    rcases Nat.lt_or_ge c (l.length + 1) with hc | hc
    · refine (insG49 base g c cur l i x vb tv w hg2 hg6 hg5 hb hlen h hg3 hc hvb).mono ?_
      rintro e w' ⟨v1, h1, h2, h3, h4⟩
      exact ⟨v1, h1, h2, grown_of_below h3 _, .inr h4⟩
    · refine (insR49 base g c cur l i x vb tv w hg2 hg6 hg5 hg1 h hc hg4 hvb (fun e => hne (by simp [Value.ownBlock, e]))).mono ?_
      rintro e w' ⟨v1, h1, h2, h3, h4⟩
      exact ⟨v1, h1, h2, by simpa [Value.ownBlock] using h3, .inl (by rw [h4]; rfl)⟩
  · obtain rfl : i = l.length := by omega
    rw [List.take_length, List.drop_length]
    exact insE49 base v l x vb tv w hR hb hlen hvb
set_option maxHeartbeats 4000000 in
set_option maxRecDepth 100000 in
theorem cmp49 (f0 f1 f2 t : Int) (w : World) (h1 : -9223372036854775808 ≤ f0 - t) (h2 : f0 - t ≤ 9223372036854775807) :
    Calls Try.prog 18 #[.agg #[.int .i64 f0, .int .i64 f1, .int .i64 f2], .int .i64 t] w fun e w' => e = .returned (.int .i64 (f0 - t)) ∧ Below w.heap.size w w' := by
  go_enter Try.func18, Try.ntmps18
  go_wp2
  go_ret
  exact ⟨rfl, below_alloc (Below.refl _ _) _⟩
def lt049 (l : List S49) (t : Int) : Nat := (l.takeWhile fun x => decide (x.f0 < t)).length
theorem lt0_is49 (t : Int) : ∀ (l : List S49) (i : Nat), i ≤ l.length → (∀ q : Nat, q < i → (rd_T49 l (q : Int)).f0 < t) → (i < l.length → t ≤ (rd_T49 l (i : Int)).f0) → lt049 l t = i
  | [], i, hi, _, _ => by
    have : i = 0 := by simpa using hi
    subst this; rfl
  | x :: l, i, hi, h1, h2 => by
    unfold lt049
    cases i with
    | zero =>
      have := h2 (by simp)
      simp only [rd_T49, Int.toNat_natCast, List.getD_cons_zero] at this
      rw [List.takeWhile_cons, if_neg (by simp; omega)]; rfl
    | succ i =>
      have h0 := h1 0 (by omega)
      simp only [rd_T49, Int.toNat_natCast, List.getD_cons_zero] at h0
      have ih := lt0_is49 t l i (by simpa using hi) (fun q hq => by have := h1 (q + 1) (by omega); simpa [rd_T49] using this) (fun hlt => by have := h2 (by simpa using hlt); simpa [rd_T49] using this)
      rw [List.takeWhile_cons, if_pos (by simpa using h0), List.length_cons]
      unfold lt049 at ih
      rw [ih]
theorem sorted_le49 {l : List S49} (hs : l.Pairwise fun a b => a.f0 < b.f0) {p q : Nat} (hpq : p ≤ q) (hq : q < l.length) : (rd_T49 l (p : Int)).f0 ≤ (rd_T49 l (q : Int)).f0 := by
  rcases Nat.lt_or_ge p q with h | h
  · have := List.pairwise_iff_getElem.1 hs p q (by omega) hq h
    simp only [rd_T49, Int.toNat_natCast, List.getD_eq_getElem?_getD, List.getElem?_eq_getElem hq, List.getElem?_eq_getElem (show p < l.length by omega), Option.getD_some]
    omega
  · obtain rfl : p = q := by omega
    exact Int.le_refl _
set_option maxHeartbeats 8000000 in
set_option maxRecDepth 100000 in
theorem bs49 (A0 : Option Addr) (c0 : Nat) (l0 : List S49) (t : Int) (w : World) (hr0 : Kd.C k49 w A0 l0.length l0) (hc0 : l0.length ≤ c0) (hs : l0.Pairwise fun a b => a.f0 < b.f0)
    (hbd : ∀ x ∈ l0, -9223372036854775808 ≤ x.f0 - t ∧ x.f0 - t ≤ 9223372036854775807) (hl : l0.length ≤ 4611686018427387903) :
    Calls Try.prog 17 #[.slice A0 l0.length c0, .int .i64 t, .func (.func 18) #[] #[]] w fun e w' => e = .returned (.tuple #[.int .i64 (lt049 l0 t), .bool (decide (lt049 l0 t < l0.length ∧ (rd_T49 l0 (lt049 l0 t : Int)).f0 = t))]) ∧ Below w.heap.size w w' := by
  have HC := Aside0.mk hr0
  have HS := Aside0.mk hs
  have HBD : Aside0 (∀ q : Nat, q < l0.length → -9223372036854775808 ≤ (rd_T49 l0 (q : Int)).f0 - t ∧ (rd_T49 l0 (q : Int)).f0 - t ≤ 9223372036854775807) := ⟨fun q hq => hbd _ (by
    simp only [rd_T49, Int.toNat_natCast, List.getD_eq_getElem?_getD, List.getElem?_eq_getElem hq, Option.getD_some]; exact List.getElem_mem hq)⟩
  have eg : ∀ args w, (callFunc 18 args).run Try.prog w = .ok (.enter 18 args) w := fun args w => enters_ Try.func18 (by kernel_rfl) (by kernel_rfl) args w
  clear hr0 hs hbd
  go_enter Try.func17, Try.ntmps17
  go_wp2
  go_loopw [9, 10] (fun v9 v10 wr => ∃ i j : Nat, i ≤ j ∧ j ≤ l0.length ∧ v9 = .int .i64 i ∧ v10 = .int .i64 j ∧ Aside0 (Below w.heap.size w wr) ∧ Aside0 (∀ q : Nat, q < i → (rd_T49 l0 (q : Int)).f0 < t) ∧ Aside0 (∀ q : Nat, j ≤ q → q < l0.length → t ≤ (rd_T49 l0 (q : Int)).f0)) (fun v9 v10 _ => (intOf v10).toNat - (intOf v9).toNat)
  case atStart =>
    exact ⟨0, l0.length, Nat.zero_le _, Nat.le_refl _, rfl, rfl, ⟨Below.refl _ _⟩, ⟨fun q hq => absurd hq (Nat.not_lt_zero _)⟩, ⟨fun q h1 h2 => by omega⟩⟩
  case round =>
    obtain ⟨i, j, hij, hj, rfl, rfl, HB, HP, HQ⟩ := hrel
    by_cases hlt : i < j
    · have hji : (i : Int) < (j : Int) := by omega
      obtain ⟨m, hm⟩ : ∃ m, m = (i + j) / 2 := ⟨_, rfl⟩
      have hm1 : i ≤ m := by omega
      have hm2 : m < j := by omega
      have hmm : ((i : Int) + (j : Int)) / 2 = (m : Int) := by omega
      have hml : (m : Int) < (l0.length : Int) := by omega
      have hm0 : 0 ≤ (m : Int) := by omega
      clear hm
      obtain ⟨ad, eA, hx0, hx1, hx2⟩ := at_T49 HC.out (m : Int) hm0 hml
      cases eA
      replace hx0 := (HB.out.cell (World.block_lt_of_cell? w _ hx0)).trans hx0; replace hx1 := (HB.out.cell (World.block_lt_of_cell? w _ hx1)).trans hx1; replace hx2 := (HB.out.cell (World.block_lt_of_cell? w _ hx2)).trans hx2
      rw [Int.toNat_natCast] at hx0 hx1 hx2
      obtain ⟨hb1, hb2⟩ := HBD.out m (by omega)
      obtain ⟨x, hx⟩ : ∃ x, x = rd_T49 l0 (m : Int) := ⟨_, rfl⟩
      rw [← hx] at hx0 hx1 hx2 hb1 hb2
      have HX := Aside0.mk hx
      clear hx
      obtain ⟨f0, f1, f2⟩ := x
      dsimp only at hx0 hx1 hx2 hb1 hb2
      have HCMP := Aside0.mk (fun w => cmp49 f0 f1 f2 t w hb1 hb2)
      clear hb1 hb2
      by_cases hq : f0 < t
      · have hq1 : f0 - t < 0 := by omega
        go_wp2_with (fail)
        refine (HCMP.out _).mono ?_
        rintro e w1 ⟨rfl, hd⟩
        have HD := Aside0.mk hd
        clear hd HCMP
        go_wp2
        go_roundw
        case rel =>
          refine ⟨m + 1, j, by omega, hj, by go_num, rfl, ⟨below_step HB.out HD.out⟩, ⟨fun q hq2 => ?_⟩, HQ⟩
          have h1 := sorted_le49 HS.out (show q ≤ m by omega) (by omega)
          rw [← HX.out] at h1
          exact Int.lt_of_le_of_lt h1 hq
        case measure => simp [intOf]; omega
      · have hq1 : 0 ≤ f0 - t := by omega
        go_wp2_with (fail)
        refine (HCMP.out _).mono ?_
        rintro e w1 ⟨rfl, hd⟩
        have HD := Aside0.mk hd
        clear hd HCMP
        go_wp2
        go_roundw
        case rel =>
          refine ⟨i, m, hm1, by omega, rfl, rfl, ⟨below_step HB.out HD.out⟩, HP, ⟨fun q hq2 hq3 => ?_⟩⟩
          have h1 := sorted_le49 HS.out hq2 hq3
          rw [← HX.out] at h1
          exact Int.le_trans (by omega) h1
        case measure => simp [intOf]; omega
    · obtain rfl : i = j := by omega
      have hlt0 := lt0_is49 t l0 i hj HP.out (fun h => HQ.out i (Nat.le_refl _) h)
      have HL0 := Aside0.mk hlt0
      clear hlt0
      have hji : ¬ ((i : Int) < (i : Int)) := by omega
      by_cases hin : i < l0.length
      · have hml : (i : Int) < (l0.length : Int) := by omega
        have hm0 : 0 ≤ (i : Int) := by omega
        obtain ⟨ad, eA, hx0, hx1, hx2⟩ := at_T49 HC.out (i : Int) hm0 hml
        cases eA
        replace hx0 := (HB.out.cell (World.block_lt_of_cell? w _ hx0)).trans hx0; replace hx1 := (HB.out.cell (World.block_lt_of_cell? w _ hx1)).trans hx1; replace hx2 := (HB.out.cell (World.block_lt_of_cell? w _ hx2)).trans hx2
        rw [Int.toNat_natCast] at hx0 hx1 hx2
        obtain ⟨hb1, hb2⟩ := HBD.out i (by omega)
        obtain ⟨x, hx⟩ : ∃ x, x = rd_T49 l0 (i : Int) := ⟨_, rfl⟩
        rw [← hx] at hx0 hx1 hx2 hb1 hb2
        have HX := Aside0.mk hx
        clear hx
        obtain ⟨f0, f1, f2⟩ := x
        dsimp only at hx0 hx1 hx2 hb1 hb2
        have HCMP := Aside0.mk (fun w => cmp49 f0 f1 f2 t w hb1 hb2)
        clear hb1 hb2
        go_wp2_with (fail)
        refine (HCMP.out _).mono ?_
        rintro e w1 ⟨rfl, hd⟩
        have HD := Aside0.mk hd
        clear hd HCMP
        go_wp2
        go_ret2
        refine ⟨?_, below_step HB.out HD.out⟩
        rw [HL0.out, ← HX.out]
        have h9 : (f0 - t == 0) = decide (i < l0.length ∧ f0 = t) := by
          rw [Bool.eq_iff_iff, beq_iff_eq, decide_eq_true_iff]; omega
        show Ending.returned (.tuple #[.int .i64 (i : Int), .bool (f0 - t == 0)]) = _
        rw [h9]
      · go_wp2
        go_ret2
        refine ⟨?_, HB.out⟩
        have h9 : decide (lt049 l0 t < l0.length) = false := decide_eq_false (fun h => hin (HL0.out ▸ h))
        have e1 : (lt049 l0 t : Int) = (i : Int) := by rw [HL0.out]
        refine Eq.trans (b := Ending.returned (.tuple #[.int .i64 (lt049 l0 t : Int), .bool false])) ?_ (by rw [h9, Bool.false_and])
        rw [e1]
        rfl
def quota_Take.okB (l : List S49) (tick most now : Int) : Bool :=
  decide (1 ≤ tick) && decide (tick ≤ 1048576) && decide (1 ≤ most) && decide (most ≤ 1048576) && decide (0 ≤ now) && decide (now ≤ 1099511627776) && decide (l.length ≤ 64) &&
    l.all (fun x => decide (0 ≤ x.f0 ∧ x.f0 ≤ 1099511627776)) && decide (l.Pairwise fun a b => a.f0 < b.f0)
def quota_Take.body (tick most : Int) (l : List S49) (i : Nat) (n now : Int) : Option (List S49 × Int × Int) :=
  (quota_has.f tick most (rd_T49 l i).f0 (rd_T49 l i).f1 (rd_T49 l i).f2 now).bind fun left =>
    if 0 ≤ left ∧ left ≤ 1048576 then
      if left < n then some (l, (n - left + tick - 1) / tick, 10)
      else some (l.set i ⟨(rd_T49 l i).f0, left - n, now⟩, 0, 0)
    else none
def quota_Take.f (k : Nat) (a0_0 a0_1 : Int) (l1 : List S49) (a2 a3 a4 : Int) : Option (List S49 × Int × Int) :=
  (quota_right.f k a0_0 a0_1 l1 a4).bind fun t =>
    if t = true ∧ 0 ≤ a2 ∧ a2 ≤ 1099511627776 ∧ 0 ≤ a3 then
      if a3 > a0_1 then some ([], 0, 6)
      else if quota_Take.okB l1 a0_0 a0_1 a4 = true then
        if lt049 l1 a2 < l1.length ∧ (rd_T49 l1 (lt049 l1 a2 : Int)).f0 = a2 then quota_Take.body a0_0 a0_1 l1 (lt049 l1 a2) a3 a4
        else if l1.length = 64 then some ([], 0, 5)
        else quota_Take.body a0_0 a0_1 (l1.take (lt049 l1 a2) ++ ⟨a2, a0_1, a4⟩ :: l1.drop (lt049 l1 a2)) (lt049 l1 a2) a3 a4
      else none
    else some ([], 0, 1)
theorem quota_Take.mono : ∀ a0 a1 a2 a3 a4 a5 k, LeO (quota_Take.f k a0 a1 a2 a3 a4 a5) (quota_Take.f (k + 1) a0 a1 a2 a3 a4 a5) := by
  intro a0 a1 a2 a3 a4 a5 k
  unfold quota_Take.f
  exact LeO.bind (quota_right.mono _ _ _ _ _) (fun _ => LeO.refl _)
theorem lt0_le49 (l : List S49) (t : Int) : lt049 l t ≤ l.length := by
  unfold lt049
  exact (List.takeWhile_prefix _).length_le
set_option maxHeartbeats 8000000 in
set_option maxRecDepth 100000 in
theorem quota_Take.calls (k : Nat) (a0_0 : Int) (a0_1 : Int) (A1 : Option Addr) (c1 : Nat) (l1 : List S49) (a2 : Int) (a3 : Int) (a4 : Int) (r1 : List S49) (r2 : Int) (r3 : Int) (w : World) (hr1 : Kd.C k49 w A1 l1.length l1) (hc1 : l1.length ≤ c1) (h : quota_Take.f k a0_0 a0_1 l1 a2 a3 a4 = some (r1, r2, r3)) :
    Calls Try.prog 9 #[.agg #[.int .i64 a0_0, .int .i64 a0_1], .slice A1 l1.length c1, .int .i64 a2, .int .i64 a3, .int .i64 a4] w fun e w' => ∃ v0_ : Value, e = .returned (.tuple #[v0_, .int .i64 r2, .int .i64 r3]) ∧ Kd.R k49 49 w' w.heap.size (fun _ => True) v0_ r1 ∧ Below w.heap.size w w' := by
  have HR := Aside0.mk hr1
  have HC := Aside0.mk hc1
  have HB0 := Aside0.mk (Below.refl w.heap.size w)
  clear hr1 hc1
  obtain ⟨tr, htr, h⟩ := Option.bind_eq_some_iff.mp h
  have A0 := Aside0.mk htr
  clear htr
  by_cases h1 : tr = true
  case neg =>
    obtain rfl : tr = false := by simpa using h1
    rw [if_neg (fun h => h1 h.1)] at h
    injection h with h
    injection h with h2 h
    injection h with h3 h4
    have HE2 := Aside0.mk h3
    have HE3 := Aside0.mk h4
    subst h2
    clear h1 h3 h4
    have huRate := Try.underlying23
    go_enter Try.func9, Try.ntmps9
    go_wp2_with (first | ((with_reducible refine gate_dst (N := 5) rfl ?_); refine box_event ?hg (N := 5) ?hd (cs := #[.int .i64 a0_0, .int .i64 a0_1]) (t := 23) ?hr ?_; (case hd => rfl); (case hg => rfl); (case hr => first | (go_simp; done) | (go_simp; rfl)); intro gb hg w1 hbox hb; have HB1 := Aside0.mk (below_step HB0.out hb); have BK := Aside0.mk hbox; have GW : w.heap.size ≤ gb := (by rw [hg]; exact Nat.le_refl _); clear hb hbox hg; have hc0 : w1.cell? ⟨gb, 0, none⟩ = some (.int .i64 a0_0) := (blk_cell BK.out 0).trans rfl; have hc1 : w1.cell? ⟨gb, 1, none⟩ = some (.int .i64 a0_1) := (blk_cell BK.out 1).trans rfl) | (go_at_call 16; go_loud (refine (quota_right.calls k a0_0 a0_1 _ _ l1 a4 _ _ (Kd.C_below HR.out HB1.out) HC.out A0.out).mono ?_; rintro e w2 ⟨rfl, hb⟩; have HB2 := Aside0.mk (below_step HB1.out hb); have BK2 := Aside0.mk (blk_below BK.out hb); clear hc0 hc1 BK HB1 hb); have hc0 : w2.cell? ⟨gb, 0, none⟩ = some (.int .i64 a0_0) := (blk_cell BK2.out 0).trans rfl; have hc1 : w2.cell? ⟨gb, 1, none⟩ = some (.int .i64 a0_1) := (blk_cell BK2.out 1).trans rfl; have GB : gb < w2.heap.size := blk_lt BK2.out))
    go_ret3
    refine ⟨_, ?_, Kd.R_nil _ _ _ _ _, HB2.out⟩
    rw [← HE2.out, ← HE3.out]
    rfl
  subst h1
  by_cases h2 : 0 ≤ a2
  case neg =>
    rw [if_neg (fun h => h2 h.2.1)] at h
    injection h with h
    injection h with h5 h
    injection h with h3 h4
    have HE2 := Aside0.mk h3
    have HE3 := Aside0.mk h4
    subst h5
    clear h3 h4
    have h2b : decide (a2 < 0) = true := by rw [decide_eq_true_iff]; omega
    have h2c : a2 < 0 := by omega
    clear h2
    have huRate := Try.underlying23
    go_enter Try.func9, Try.ntmps9
    go_wp2_with (first | ((with_reducible refine gate_dst (N := 5) rfl ?_); refine box_event ?hg (N := 5) ?hd (cs := #[.int .i64 a0_0, .int .i64 a0_1]) (t := 23) ?hr ?_; (case hd => rfl); (case hg => rfl); (case hr => first | (go_simp; done) | (go_simp; rfl)); intro gb hg w1 hbox hb; have HB1 := Aside0.mk (below_step HB0.out hb); have BK := Aside0.mk hbox; have GW : w.heap.size ≤ gb := (by rw [hg]; exact Nat.le_refl _); clear hb hbox hg; have hc0 : w1.cell? ⟨gb, 0, none⟩ = some (.int .i64 a0_0) := (blk_cell BK.out 0).trans rfl; have hc1 : w1.cell? ⟨gb, 1, none⟩ = some (.int .i64 a0_1) := (blk_cell BK.out 1).trans rfl) | (go_at_call 16; go_loud (refine (quota_right.calls k a0_0 a0_1 _ _ l1 a4 _ _ (Kd.C_below HR.out HB1.out) HC.out A0.out).mono ?_; rintro e w2 ⟨rfl, hb⟩; have HB2 := Aside0.mk (below_step HB1.out hb); have BK2 := Aside0.mk (blk_below BK.out hb); clear hc0 hc1 BK HB1 hb); have hc0 : w2.cell? ⟨gb, 0, none⟩ = some (.int .i64 a0_0) := (blk_cell BK2.out 0).trans rfl; have hc1 : w2.cell? ⟨gb, 1, none⟩ = some (.int .i64 a0_1) := (blk_cell BK2.out 1).trans rfl; have GB : gb < w2.heap.size := blk_lt BK2.out))
    go_ret3
    refine ⟨_, ?_, Kd.R_nil _ _ _ _ _, HB2.out⟩
    rw [← HE2.out, ← HE3.out]
    rfl
  by_cases h3 : a2 ≤ 1099511627776
  case neg =>
    rw [if_neg (fun h => h3 h.2.2.1)] at h
    injection h with h
    injection h with h5 h
    injection h with h6 h7
    have HE2 := Aside0.mk h6
    have HE3 := Aside0.mk h7
    subst h5
    clear h6 h7
    have h2b : decide (a2 < 0) = false := by rw [decide_eq_false_iff_not]; omega
    have h3b : decide (1099511627776 < a2) = true := by rw [decide_eq_true_iff]; omega
    have h3c : 1099511627776 < a2 := by omega
    clear h3
    have huRate := Try.underlying23
    go_enter Try.func9, Try.ntmps9
    go_wp2_with (first | ((with_reducible refine gate_dst (N := 5) rfl ?_); refine box_event ?hg (N := 5) ?hd (cs := #[.int .i64 a0_0, .int .i64 a0_1]) (t := 23) ?hr ?_; (case hd => rfl); (case hg => rfl); (case hr => first | (go_simp; done) | (go_simp; rfl)); intro gb hg w1 hbox hb; have HB1 := Aside0.mk (below_step HB0.out hb); have BK := Aside0.mk hbox; have GW : w.heap.size ≤ gb := (by rw [hg]; exact Nat.le_refl _); clear hb hbox hg; have hc0 : w1.cell? ⟨gb, 0, none⟩ = some (.int .i64 a0_0) := (blk_cell BK.out 0).trans rfl; have hc1 : w1.cell? ⟨gb, 1, none⟩ = some (.int .i64 a0_1) := (blk_cell BK.out 1).trans rfl) | (go_at_call 16; go_loud (refine (quota_right.calls k a0_0 a0_1 _ _ l1 a4 _ _ (Kd.C_below HR.out HB1.out) HC.out A0.out).mono ?_; rintro e w2 ⟨rfl, hb⟩; have HB2 := Aside0.mk (below_step HB1.out hb); have BK2 := Aside0.mk (blk_below BK.out hb); clear hc0 hc1 BK HB1 hb); have hc0 : w2.cell? ⟨gb, 0, none⟩ = some (.int .i64 a0_0) := (blk_cell BK2.out 0).trans rfl; have hc1 : w2.cell? ⟨gb, 1, none⟩ = some (.int .i64 a0_1) := (blk_cell BK2.out 1).trans rfl; have GB : gb < w2.heap.size := blk_lt BK2.out))
    go_ret3
    refine ⟨_, ?_, Kd.R_nil _ _ _ _ _, HB2.out⟩
    rw [← HE2.out, ← HE3.out]
    rfl
  have h2b : decide (a2 < 0) = false := by rw [decide_eq_false_iff_not]; omega
  have h3b : decide (1099511627776 < a2) = false := by rw [decide_eq_false_iff_not]; omega
  by_cases h4 : 0 ≤ a3
  case neg =>
    rw [if_neg (fun h => h4 h.2.2.2)] at h
    injection h with h
    injection h with h5 h
    injection h with h6 h7
    have HE2 := Aside0.mk h6
    have HE3 := Aside0.mk h7
    subst h5
    clear h6 h7
    have h4b : decide (a3 < 0) = true := by rw [decide_eq_true_iff]; omega
    have h4c : a3 < 0 := by omega
    clear h4
    have huRate := Try.underlying23
    go_enter Try.func9, Try.ntmps9
    go_wp2_with (first | ((with_reducible refine gate_dst (N := 5) rfl ?_); refine box_event ?hg (N := 5) ?hd (cs := #[.int .i64 a0_0, .int .i64 a0_1]) (t := 23) ?hr ?_; (case hd => rfl); (case hg => rfl); (case hr => first | (go_simp; done) | (go_simp; rfl)); intro gb hg w1 hbox hb; have HB1 := Aside0.mk (below_step HB0.out hb); have BK := Aside0.mk hbox; have GW : w.heap.size ≤ gb := (by rw [hg]; exact Nat.le_refl _); clear hb hbox hg; have hc0 : w1.cell? ⟨gb, 0, none⟩ = some (.int .i64 a0_0) := (blk_cell BK.out 0).trans rfl; have hc1 : w1.cell? ⟨gb, 1, none⟩ = some (.int .i64 a0_1) := (blk_cell BK.out 1).trans rfl) | (go_at_call 16; go_loud (refine (quota_right.calls k a0_0 a0_1 _ _ l1 a4 _ _ (Kd.C_below HR.out HB1.out) HC.out A0.out).mono ?_; rintro e w2 ⟨rfl, hb⟩; have HB2 := Aside0.mk (below_step HB1.out hb); have BK2 := Aside0.mk (blk_below BK.out hb); clear hc0 hc1 BK HB1 hb); have hc0 : w2.cell? ⟨gb, 0, none⟩ = some (.int .i64 a0_0) := (blk_cell BK2.out 0).trans rfl; have hc1 : w2.cell? ⟨gb, 1, none⟩ = some (.int .i64 a0_1) := (blk_cell BK2.out 1).trans rfl; have GB : gb < w2.heap.size := blk_lt BK2.out))
    go_ret3
    refine ⟨_, ?_, Kd.R_nil _ _ _ _ _, HB2.out⟩
    rw [← HE2.out, ← HE3.out]
    rfl
  rw [if_pos ⟨rfl, h2, h3, h4⟩] at h
  have h4b : decide (a3 < 0) = false := by rw [decide_eq_false_iff_not]; omega
  by_cases h5 : a3 > a0_1
  case pos =>
    rw [if_pos h5] at h
    injection h with h
    injection h with h8 h
    injection h with h6 h7
    have HE2 := Aside0.mk h6
    have HE3 := Aside0.mk h7
    subst h8
    clear h6 h7
    have h5b : decide (a0_1 < a3) = true := by rw [decide_eq_true_iff]; exact h5
    have huRate := Try.underlying23
    go_enter Try.func9, Try.ntmps9
    go_wp2_with (first | ((with_reducible refine gate_dst (N := 5) rfl ?_); refine box_event ?hg (N := 5) ?hd (cs := #[.int .i64 a0_0, .int .i64 a0_1]) (t := 23) ?hr ?_; (case hd => rfl); (case hg => rfl); (case hr => first | (go_simp; done) | (go_simp; rfl)); intro gb hg w1 hbox hb; have HB1 := Aside0.mk (below_step HB0.out hb); have BK := Aside0.mk hbox; have GW : w.heap.size ≤ gb := (by rw [hg]; exact Nat.le_refl _); clear hb hbox hg; have hc0 : w1.cell? ⟨gb, 0, none⟩ = some (.int .i64 a0_0) := (blk_cell BK.out 0).trans rfl; have hc1 : w1.cell? ⟨gb, 1, none⟩ = some (.int .i64 a0_1) := (blk_cell BK.out 1).trans rfl) | (go_at_call 16; go_loud (refine (quota_right.calls k a0_0 a0_1 _ _ l1 a4 _ _ (Kd.C_below HR.out HB1.out) HC.out A0.out).mono ?_; rintro e w2 ⟨rfl, hb⟩; have HB2 := Aside0.mk (below_step HB1.out hb); have BK2 := Aside0.mk (blk_below BK.out hb); clear hc0 hc1 BK HB1 hb); have hc0 : w2.cell? ⟨gb, 0, none⟩ = some (.int .i64 a0_0) := (blk_cell BK2.out 0).trans rfl; have hc1 : w2.cell? ⟨gb, 1, none⟩ = some (.int .i64 a0_1) := (blk_cell BK2.out 1).trans rfl; have GB : gb < w2.heap.size := blk_lt BK2.out))
    go_ret3
    refine ⟨_, ?_, Kd.R_nil _ _ _ _ _, HB2.out⟩
    rw [← HE2.out, ← HE3.out]
    rfl
  rw [if_neg h5] at h
  have h5b : decide (a0_1 < a3) = false := by rw [decide_eq_false_iff_not]; exact h5
  replace h5 : a3 ≤ a0_1 := by omega
  split at h
  case isFalse => cases h
  rename_i hok
  simp only [quota_Take.okB, Bool.and_eq_true, decide_eq_true_eq, List.all_eq_true] at hok
  obtain ⟨⟨⟨⟨⟨⟨⟨⟨k1, k2⟩, k3⟩, k4⟩, k5⟩, k6⟩, k7⟩, k8⟩, k9⟩ := hok
  have K8 := Aside0.mk k8
  have K9 := Aside0.mk k9
  clear k8 k9
  have HBS := Aside0.mk (fun (A : Option Addr) (c : Nat) (w : World) hr hc => bs49 A c l1 a2 w hr hc K9.out (fun x hx => by have := K8.out x hx; omega) (by omega))
  have hle := lt0_le49 l1 a2
  obtain ⟨i, hi⟩ : ∃ i, i = lt049 l1 a2 := ⟨_, rfl⟩
  rw [← hi] at h HBS hle
  clear hi
  have H := Aside0.mk h
  clear h
  by_cases hf : i < l1.length ∧ (rd_T49 l1 (i : Int)).f0 = a2
  case neg =>
    have HF : Aside0 (decide (i < l1.length ∧ (rd_T49 l1 (i : Int)).f0 = a2) = false) := ⟨decide_eq_false hf⟩
    have H0 := H.out
    rw [if_neg hf] at H0
    clear H hf
    by_cases h64 : l1.length = 64
    case pos =>
      rw [if_pos h64] at H0
      injection H0 with H0
      injection H0 with h8 H0
      injection H0 with h6 h7
      have HE2 := Aside0.mk h6
      have HE3 := Aside0.mk h7
      have h64b : ((l1.length : Int) == 64) = true := by rw [beq_iff_eq]; omega
      subst h8
      clear h6 h7 h64
      have huRate := Try.underlying23
      go_enter Try.func9, Try.ntmps9
      go_wp2_with (first | ((with_reducible refine gate_dst (N := 5) rfl ?_); refine box_event ?hg (N := 5) ?hd (cs := #[.int .i64 a0_0, .int .i64 a0_1]) (t := 23) ?hr ?_; (case hd => rfl); (case hg => rfl); (case hr => first | (go_simp; done) | (go_simp; rfl)); intro gb hg w1 hbox hb; have HB1 := Aside0.mk (below_step HB0.out hb); have BK := Aside0.mk hbox; have GW : w.heap.size ≤ gb := (by rw [hg]; exact Nat.le_refl _); clear hb hbox hg; have hc0 : w1.cell? ⟨gb, 0, none⟩ = some (.int .i64 a0_0) := (blk_cell BK.out 0).trans rfl; have hc1 : w1.cell? ⟨gb, 1, none⟩ = some (.int .i64 a0_1) := (blk_cell BK.out 1).trans rfl) | (go_at_call 16; go_loud (refine (quota_right.calls k a0_0 a0_1 _ _ l1 a4 _ _ (Kd.C_below HR.out HB1.out) HC.out A0.out).mono ?_; rintro e w2 ⟨rfl, hb⟩; have HB2 := Aside0.mk (below_step HB1.out hb); have BK2 := Aside0.mk (blk_below BK.out hb); clear hc0 hc1 BK HB1 hb); have hc0 : w2.cell? ⟨gb, 0, none⟩ = some (.int .i64 a0_0) := (blk_cell BK2.out 0).trans rfl; have hc1 : w2.cell? ⟨gb, 1, none⟩ = some (.int .i64 a0_1) := (blk_cell BK2.out 1).trans rfl; have GB : gb < w2.heap.size := blk_lt BK2.out))
      refine (HBS.out _ _ _ (Kd.C_below HR.out HB2.out) HC.out).mono ?_
      rintro e w3 ⟨rfl, hb⟩
      have HB3 := Aside0.mk (below_step HB2.out hb)
      have BK3 := Aside0.mk (blk_below BK2.out hb)
      clear hb hc0 hc1
      rw [HF.out]
      have hb24 : l1.length * 24 ≤ 140737488355328 := by omega
      go_wp2_with (fail)
      refine (clone49 _ _ l1 _ (Kd.C_below HR.out HB3.out) HC.out hb24).mono ?_
      rintro e W4 ⟨v1, rfl, hr, hb⟩
      have HB4 := Aside0.mk (below_step HB3.out hb)
      have BK4 := Aside0.mk (blk_below BK3.out hb)
      have hgb3 : gb < w3.heap.size := blk_lt BK3.out
      have HZ3 := Aside0.mk HB3.out.size
      have hz34 : w3.heap.size ≤ W4.heap.size := hb.size
      clear hb hb24
      obtain ⟨A4, c4, rfl⟩ := Kd.R_slice hr
      go_wp2
      go_ret3
      refine ⟨_, ?_, Kd.R_nil _ _ _ _ _, HB4.out⟩
      rw [← HE2.out, ← HE3.out]
      rfl
    case neg =>
      rw [if_neg h64] at H0
      have h64b : ((l1.length : Int) == 64) = false := by rw [beq_eq_false_iff_ne]; omega
      clear h64
      have huRate := Try.underlying23
      go_enter Try.func9, Try.ntmps9
      go_wp2_with (first | ((with_reducible refine gate_dst (N := 5) rfl ?_); refine box_event ?hg (N := 5) ?hd (cs := #[.int .i64 a0_0, .int .i64 a0_1]) (t := 23) ?hr ?_; (case hd => rfl); (case hg => rfl); (case hr => first | (go_simp; done) | (go_simp; rfl)); intro gb hg w1 hbox hb; have HB1 := Aside0.mk (below_step HB0.out hb); have BK := Aside0.mk hbox; have GW : w.heap.size ≤ gb := (by rw [hg]; exact Nat.le_refl _); clear hb hbox hg; have hc0 : w1.cell? ⟨gb, 0, none⟩ = some (.int .i64 a0_0) := (blk_cell BK.out 0).trans rfl; have hc1 : w1.cell? ⟨gb, 1, none⟩ = some (.int .i64 a0_1) := (blk_cell BK.out 1).trans rfl) | (go_at_call 16; go_loud (refine (quota_right.calls k a0_0 a0_1 _ _ l1 a4 _ _ (Kd.C_below HR.out HB1.out) HC.out A0.out).mono ?_; rintro e w2 ⟨rfl, hb⟩; have HB2 := Aside0.mk (below_step HB1.out hb); have BK2 := Aside0.mk (blk_below BK.out hb); clear hc0 hc1 BK HB1 hb); have hc0 : w2.cell? ⟨gb, 0, none⟩ = some (.int .i64 a0_0) := (blk_cell BK2.out 0).trans rfl; have hc1 : w2.cell? ⟨gb, 1, none⟩ = some (.int .i64 a0_1) := (blk_cell BK2.out 1).trans rfl; have GB : gb < w2.heap.size := blk_lt BK2.out))
      refine (HBS.out _ _ _ (Kd.C_below HR.out HB2.out) HC.out).mono ?_
      rintro e w3 ⟨rfl, hb⟩
      have HB3 := Aside0.mk (below_step HB2.out hb)
      have BK3 := Aside0.mk (blk_below BK2.out hb)
      clear hb hc0 hc1
      rw [HF.out]
      have hb24 : l1.length * 24 ≤ 140737488355328 := by omega
      go_wp2_with (fail)
      refine (clone49 _ _ l1 _ (Kd.C_below HR.out HB3.out) HC.out hb24).mono ?_
      rintro e W4 ⟨v1, rfl, hr, hb⟩
      have HB4 := Aside0.mk (below_step HB3.out hb)
      have BK4 := Aside0.mk (blk_below BK3.out hb)
      have hgb3 : gb < w3.heap.size := blk_lt BK3.out
      have HZ3 := Aside0.mk HB3.out.size
      have hz34 : w3.heap.size ≤ W4.heap.size := hb.size
      clear hb hb24
      obtain ⟨A4, c4, rfl⟩ := Kd.R_slice hr
      have hc1 : W4.cell? ⟨gb, 1, none⟩ = some (.int .i64 a0_1) := (blk_cell BK4.out 1).trans rfl
      have hbz : (l1.length + 1) * 24 ≤ 140737488355328 := by omega
      go_wp2_with (fail)
      have hlt4 : ∀ k, (Value.slice A4 l1.length c4).ownBlock = some k → k < W4.heap.size := fun k hk => own_lt (Kd.R_own hr).choose_spec k hk
      have hge4 : ∀ k, (Value.slice A4 l1.length c4).ownBlock = some k → w3.heap.size ≤ k := fun k hk => own_base (Kd.R_own hr).choose_spec k hk
      refine (ins49 w3.heap.size _ l1 i ⟨a2, a0_1, a4⟩ _ 49 _ (Kd.R_alloc hr _) (by simp; omega) hle hbz (blk_new _ _) (fun e => by have := hlt4 _ e; omega)).mono ?_
      have HBo := HB4
      have BKo := BK4
      clear HB4 BK4
      rintro e W4 ⟨v2, rfl, hr2, hgr, _⟩
      have HB4 : Aside0 (Below w.heap.size w W4) := ⟨(below_alloc HBo.out _).grown hgr (below_alloc HBo.out (.cells #[.int .i64 a2, .int .i64 a0_1, .int .i64 a4] 49)).size (fun k hk => Nat.le_trans HZ3.out (hge4 k hk))⟩
      have BK4 : Aside0 (W4.heap[gb]? = some (.cells #[.int .i64 a0_0, .int .i64 a0_1] 23 (0, 0))) := ⟨(hgr.block gb (by simp; omega) (fun e => by have := hge4 gb e.symm; omega)).trans (blk_alloc BKo.out _)⟩
      clear hr hgr hlt4 hge4 hz34 HBo BKo
      obtain ⟨A4, c4, rfl⟩ := Kd.R_slice hr2
      have hr := hr2
      clear hr2
      obtain ⟨lx, hlx⟩ : ∃ lx, lx = l1.take i ++ (⟨a2, a0_1, a4⟩ : S49) :: l1.drop i := ⟨_, rfl⟩
      have hil : i < lx.length := by rw [hlx, Sl.flat_ins flat49 w l1 i _ hle]; omega
      rw [← hlx] at H0 hr ⊢
      clear hlx
      obtain ⟨g, c, cur, hv, hg1, hg2, hg3, hg4, hg5, hg6⟩ := Sl.R_open flat49 hr (by omega)
      injection hv with hv1 _ hv2
      subst hv1
      subst hv2
      have HG := Aside0.mk hg2
      have HG1 := Aside0.mk (show w.heap.size ≤ g ∧ gb < g from ⟨Nat.le_trans HZ3.out hg1, Nat.lt_of_lt_of_le hgb3 hg1⟩)
      have HG4 := Aside0.mk (And.intro hg3 hg4)
      have HG5 := Aside0.mk hg5
      have HG6 := Aside0.mk hg6
      have HL := Aside0.mk hil
      have hix : (i : Int) < (lx.length : Int) := by omega
      have hi0 : (0 : Int) ≤ (i : Int) := by omega
      clear hg1 hg2 hg3 hg4 hg5 hg6 hr hil
      have hrd : rd_T49 lx (i : Int) = lx[i]'HL.out := by
        simp [rd_T49, List.getD_eq_getElem?_getD, List.getElem?_eq_getElem HL.out]
      unfold quota_Take.body at H0
      obtain ⟨left, hleft, H0⟩ := Option.bind_eq_some_iff.mp H0
      split at H0
      case isFalse => cases H0
      rename_i hl09
      obtain ⟨hl0, hl9⟩ := hl09
      obtain ⟨⟨f0, f1, f2⟩, hx⟩ : ∃ x, x = rd_T49 lx (i : Int) := ⟨_, rfl⟩
      rw [← hx] at hleft H0
      have HX := Aside0.mk (hx.trans hrd)
      dsimp only at hleft H0
      have AL := Aside0.mk hleft
      have H := Aside0.mk H0
      clear hx hrd hleft H0
      have HXC : Aside0 (∀ W : World, W.heap[g]? = some (.cells cur 49 (0, 0)) → ∀ j u, ([.int .i64 f0, .int .i64 f1, .int .i64 f2] : List Value)[j]? = some u → W.cell? ⟨g, i * 3 + j, none⟩ = some u) := ⟨fun W hW j u hu => by
        rw [blk_cell hW, ← Array.getElem?_toList]
        have h1 : (cur.toList.take (lx.length * 3))[i * 3 + j]? = (lx.flatMap enc49)[i * 3 + j]? := congrArg (fun z => z[i * 3 + j]?) HG6.out
        have hj : j < 3 := by have := (List.getElem?_eq_some_iff.1 hu).1; simpa using this
        have hlt := HL.out
        rw [List.getElem?_take, if_pos (by omega)] at h1
        rw [h1, Sl.flat_get (K := 3) (fun _ => rfl) lx i j HL.out hj, ← HX.out]
        exact hu⟩
      have hx0 : W4.cell? ⟨g, i * 3, none⟩ = some (.int .i64 f0) := HXC.out _ HG.out 0 _ rfl
      have hx1 : W4.cell? ⟨g, i * 3 + 1, none⟩ = some (.int .i64 f1) := HXC.out _ HG.out 1 _ rfl
      have hx2 : W4.cell? ⟨g, i * 3 + 2, none⟩ = some (.int .i64 f2) := HXC.out _ HG.out 2 _ rfl
      have hc0 : W4.cell? ⟨gb, 0, none⟩ = some (.int .i64 a0_0) := (blk_cell BK4.out 0).trans rfl
      have hc1 : W4.cell? ⟨gb, 1, none⟩ = some (.int .i64 a0_1) := (blk_cell BK4.out 1).trans rfl
      go_wp2_with (fail)
      trace "A"
      go_still_tail 5, (by kernel_rfl)
      go_wp2_with (fail)
      refine (quota_has.calls a0_0 a0_1 f0 f1 f2 a4 left _ AL.out).mono ?_
      rintro e W5 ⟨rfl, hb⟩
      have HB5 := Aside0.mk (below_step (below_drew HB4.out) hb)
      have BK5 : Aside0 (W5.heap[gb]? = some (.cells #[.int .i64 a0_0, .int .i64 a0_1] 23 (0, 0))) := ⟨blk_below (w := W4.drew) BK4.out hb⟩
      have HGb : Aside0 (W5.heap[g]? = some (.cells cur 49 (0, 0))) := ⟨blk_below (w := W4.drew) HG.out hb⟩
      clear hb hc0 hc1 hx0 hx1 hx2
      have hc0 : W5.cell? ⟨gb, 0, none⟩ = some (.int .i64 a0_0) := (blk_cell BK5.out 0).trans rfl
      by_cases hw : left < a3
      · have H0 := H.out
        rw [if_pos hw] at H0
        injection H0 with H0
        injection H0 with e1 H0
        injection H0 with e2 e3
        have E1 := Aside0.mk e1
        have E2 := Aside0.mk e2
        have E3 := Aside0.mk e3
        clear e1 e2 e3 H0
        have hwb : decide (left < a3) = true := by rw [decide_eq_true_iff]; exact hw
        go_wp2
        go_quiet (fail)
        go_wp2
        go_ret3
        refine ⟨.slice (some ⟨g, 0, none⟩) lx.length c4, ?_, ?_, pw_below_drewN HB5.out _⟩
        · rw [← E2.out, ← E3.out]; rfl
        · rw [← E1.out]
          exact Sl.R_block flat49 HG1.out.1 (blk_drewN HGb.out _) trivial HG4.out.1 HG4.out.2 HG5.out HG6.out
      · have H0 := H.out
        rw [if_neg hw] at H0
        injection H0 with H0
        injection H0 with e1 H0
        injection H0 with e2 e3
        have E1 := Aside0.mk e1
        have E2 := Aside0.mk e2
        have E3 := Aside0.mk e3
        clear e1 e2 e3 H0
        have hwb : decide (left < a3) = false := by rw [decide_eq_false_iff_not]; exact hw
        have hx1 : W5.cell? ⟨g, i * 3 + 1, none⟩ = some (.int .i64 f1) := HXC.out _ HGb.out 1 _ rfl
        have hx2 : W5.cell? ⟨g, i * 3 + 2, none⟩ = some (.int .i64 f2) := HXC.out _ HGb.out 2 _ rfl
        have hf1 : W5.frozen? ⟨g, i * 3 + 1, none⟩ = false := blk_frozen HGb.out _
        have hf2 : W5.frozen? ⟨g, i * 3 + 2, none⟩ = false := blk_frozen HGb.out _
        go_wp2
        go_ret3
        refine ⟨.slice (some ⟨g, 0, none⟩) lx.length c4, ?_, ?_, below_set (below_set HB5.out HG1.out.1) HG1.out.1⟩
        · rw [← E2.out, ← E3.out]; rfl
        · rw [← E1.out]
          obtain ⟨b1, s1, t1⟩ := Sl.block_set HGb.out (i * 3 + 1) (lx.length * 3) (.int .i64 (left - a3))
          obtain ⟨b2, s2, t2⟩ := Sl.block_set b1 (i * 3 + 2) (lx.length * 3) (.int .i64 a4)
          have hil := HL.out
          have q1 := Sl.set_cell (enc := enc49) (K := 3) (fun _ => rfl) (.int .i64 (left - a3)) 1 (by omega) ⟨f0, left - a3, f2⟩ lx i hil (by rw [← HX.out]; rfl)
          have q2 := Sl.set_cell (enc := enc49) (K := 3) (fun _ => rfl) (.int .i64 a4) 2 (by omega) ⟨f0, left - a3, a4⟩ (lx.set i ⟨f0, left - a3, f2⟩) i (by rw [List.length_set]; exact hil) (by rw [List.getElem_set_self]; rfl)
          rw [List.set_set] at q2
          have t3 := t2.trans (congrArg (fun z => z.set (i * 3 + 2) (.int .i64 a4)) (t1.trans (congrArg (fun z => z.set (i * 3 + 1) (.int .i64 (left - a3))) HG6.out)))
          have := Sl.R_block (ok := fun _ => True) (cap := c4) (xs := lx.set i ⟨f0, left - a3, a4⟩) flat49 HG1.out.1 b2 trivial (by rw [List.length_set]; exact HG4.out.1) HG4.out.2 (s2.trans (s1.trans HG5.out)) (by rw [List.length_set]; exact t3.trans ((congrArg (fun z => z.set (i * 3 + 2) (.int .i64 a4)) q1).trans q2))
          rw [List.length_set] at this
          exact this
  case pos =>
    have HF : Aside0 (decide (i < l1.length ∧ (rd_T49 l1 (i : Int)).f0 = a2) = true) := ⟨decide_eq_true hf⟩
    have hil := hf.1
    have H0 := H.out
    rw [if_pos hf] at H0
    clear H hf
    have huRate := Try.underlying23
    go_enter Try.func9, Try.ntmps9
    go_wp2_with (first | ((with_reducible refine gate_dst (N := 5) rfl ?_); refine box_event ?hg (N := 5) ?hd (cs := #[.int .i64 a0_0, .int .i64 a0_1]) (t := 23) ?hr ?_; (case hd => rfl); (case hg => rfl); (case hr => first | (go_simp; done) | (go_simp; rfl)); intro gb hg w1 hbox hb; have HB1 := Aside0.mk (below_step HB0.out hb); have BK := Aside0.mk hbox; have GW : w.heap.size ≤ gb := (by rw [hg]; exact Nat.le_refl _); clear hb hbox hg; have hc0 : w1.cell? ⟨gb, 0, none⟩ = some (.int .i64 a0_0) := (blk_cell BK.out 0).trans rfl; have hc1 : w1.cell? ⟨gb, 1, none⟩ = some (.int .i64 a0_1) := (blk_cell BK.out 1).trans rfl) | (go_at_call 16; go_loud (refine (quota_right.calls k a0_0 a0_1 _ _ l1 a4 _ _ (Kd.C_below HR.out HB1.out) HC.out A0.out).mono ?_; rintro e w2 ⟨rfl, hb⟩; have HB2 := Aside0.mk (below_step HB1.out hb); have BK2 := Aside0.mk (blk_below BK.out hb); clear hc0 hc1 BK HB1 hb); have hc0 : w2.cell? ⟨gb, 0, none⟩ = some (.int .i64 a0_0) := (blk_cell BK2.out 0).trans rfl; have hc1 : w2.cell? ⟨gb, 1, none⟩ = some (.int .i64 a0_1) := (blk_cell BK2.out 1).trans rfl; have GB : gb < w2.heap.size := blk_lt BK2.out))
    refine (HBS.out _ _ _ (Kd.C_below HR.out HB2.out) HC.out).mono ?_
    rintro e w3 ⟨rfl, hb⟩
    have HB3 := Aside0.mk (below_step HB2.out hb)
    have BK3 := Aside0.mk (blk_below BK2.out hb)
    clear hb hc0 hc1
    rw [HF.out]
    have hb24 : l1.length * 24 ≤ 140737488355328 := by omega
    go_wp2_with (fail)
    refine (clone49 _ _ l1 _ (Kd.C_below HR.out HB3.out) HC.out hb24).mono ?_
    rintro e W4 ⟨v1, rfl, hr, hb⟩
    have HB4 := Aside0.mk (below_step HB3.out hb)
    have BK4 := Aside0.mk (blk_below BK3.out hb)
    have hgb3 : gb < w3.heap.size := blk_lt BK3.out
    have HZ3 := Aside0.mk HB3.out.size
    have hz34 : w3.heap.size ≤ W4.heap.size := hb.size
    clear hb hb24
    obtain ⟨A4, c4, rfl⟩ := Kd.R_slice hr
    obtain ⟨lx, hlx⟩ : ∃ lx, lx = l1 := ⟨_, rfl⟩
    rw [← hlx] at H0 hr hil ⊢
    clear hlx
    obtain ⟨g, c, cur, hv, hg1, hg2, hg3, hg4, hg5, hg6⟩ := Sl.R_open flat49 hr (by omega)
    injection hv with hv1 _ hv2
    subst hv1
    subst hv2
    have HG := Aside0.mk hg2
    have HG1 := Aside0.mk (show w.heap.size ≤ g ∧ gb < g from ⟨Nat.le_trans HZ3.out hg1, Nat.lt_of_lt_of_le hgb3 hg1⟩)
    have HG4 := Aside0.mk (And.intro hg3 hg4)
    have HG5 := Aside0.mk hg5
    have HG6 := Aside0.mk hg6
    have HL := Aside0.mk hil
    have hix : (i : Int) < (lx.length : Int) := by omega
    have hi0 : (0 : Int) ≤ (i : Int) := by omega
    clear hg1 hg2 hg3 hg4 hg5 hg6 hr hil
    have hrd : rd_T49 lx (i : Int) = lx[i]'HL.out := by
      simp [rd_T49, List.getD_eq_getElem?_getD, List.getElem?_eq_getElem HL.out]
    unfold quota_Take.body at H0
    obtain ⟨left, hleft, H0⟩ := Option.bind_eq_some_iff.mp H0
    split at H0
    case isFalse => cases H0
    rename_i hl09
    obtain ⟨hl0, hl9⟩ := hl09
    obtain ⟨⟨f0, f1, f2⟩, hx⟩ : ∃ x, x = rd_T49 lx (i : Int) := ⟨_, rfl⟩
    rw [← hx] at hleft H0
    have HX := Aside0.mk (hx.trans hrd)
    dsimp only at hleft H0
    have AL := Aside0.mk hleft
    have H := Aside0.mk H0
    clear hx hrd hleft H0
    have HXC : Aside0 (∀ W : World, W.heap[g]? = some (.cells cur 49 (0, 0)) → ∀ j u, ([.int .i64 f0, .int .i64 f1, .int .i64 f2] : List Value)[j]? = some u → W.cell? ⟨g, i * 3 + j, none⟩ = some u) := ⟨fun W hW j u hu => by
      rw [blk_cell hW, ← Array.getElem?_toList]
      have h1 : (cur.toList.take (lx.length * 3))[i * 3 + j]? = (lx.flatMap enc49)[i * 3 + j]? := congrArg (fun z => z[i * 3 + j]?) HG6.out
      have hj : j < 3 := by have := (List.getElem?_eq_some_iff.1 hu).1; simpa using this
      have hlt := HL.out
      rw [List.getElem?_take, if_pos (by omega)] at h1
      rw [h1, Sl.flat_get (K := 3) (fun _ => rfl) lx i j HL.out hj, ← HX.out]
      exact hu⟩
    have hx0 : W4.cell? ⟨g, i * 3, none⟩ = some (.int .i64 f0) := HXC.out _ HG.out 0 _ rfl
    have hx1 : W4.cell? ⟨g, i * 3 + 1, none⟩ = some (.int .i64 f1) := HXC.out _ HG.out 1 _ rfl
    have hx2 : W4.cell? ⟨g, i * 3 + 2, none⟩ = some (.int .i64 f2) := HXC.out _ HG.out 2 _ rfl
    have hc0 : W4.cell? ⟨gb, 0, none⟩ = some (.int .i64 a0_0) := (blk_cell BK4.out 0).trans rfl
    have hc1 : W4.cell? ⟨gb, 1, none⟩ = some (.int .i64 a0_1) := (blk_cell BK4.out 1).trans rfl
    go_wp2_with (fail)
    trace "A"
    go_still_tail 5, (by kernel_rfl)
    go_wp2_with (fail)
    refine (quota_has.calls a0_0 a0_1 f0 f1 f2 a4 left _ AL.out).mono ?_
    rintro e W5 ⟨rfl, hb⟩
    have HB5 := Aside0.mk (below_step (below_drew HB4.out) hb)
    have BK5 : Aside0 (W5.heap[gb]? = some (.cells #[.int .i64 a0_0, .int .i64 a0_1] 23 (0, 0))) := ⟨blk_below (w := W4.drew) BK4.out hb⟩
    have HGb : Aside0 (W5.heap[g]? = some (.cells cur 49 (0, 0))) := ⟨blk_below (w := W4.drew) HG.out hb⟩
    clear hb hc0 hc1 hx0 hx1 hx2
    have hc0 : W5.cell? ⟨gb, 0, none⟩ = some (.int .i64 a0_0) := (blk_cell BK5.out 0).trans rfl
    by_cases hw : left < a3
    · have H0 := H.out
      rw [if_pos hw] at H0
      injection H0 with H0
      injection H0 with e1 H0
      injection H0 with e2 e3
      have E1 := Aside0.mk e1
      have E2 := Aside0.mk e2
      have E3 := Aside0.mk e3
      clear e1 e2 e3 H0
      have hwb : decide (left < a3) = true := by rw [decide_eq_true_iff]; exact hw
      go_wp2
      go_quiet (fail)
      go_wp2
      go_ret3
      refine ⟨.slice (some ⟨g, 0, none⟩) lx.length c4, ?_, ?_, pw_below_drewN HB5.out _⟩
      · rw [← E2.out, ← E3.out]; rfl
      · rw [← E1.out]
        exact Sl.R_block flat49 HG1.out.1 (blk_drewN HGb.out _) trivial HG4.out.1 HG4.out.2 HG5.out HG6.out
    · have H0 := H.out
      rw [if_neg hw] at H0
      injection H0 with H0
      injection H0 with e1 H0
      injection H0 with e2 e3
      have E1 := Aside0.mk e1
      have E2 := Aside0.mk e2
      have E3 := Aside0.mk e3
      clear e1 e2 e3 H0
      have hwb : decide (left < a3) = false := by rw [decide_eq_false_iff_not]; exact hw
      have hx1 : W5.cell? ⟨g, i * 3 + 1, none⟩ = some (.int .i64 f1) := HXC.out _ HGb.out 1 _ rfl
      have hx2 : W5.cell? ⟨g, i * 3 + 2, none⟩ = some (.int .i64 f2) := HXC.out _ HGb.out 2 _ rfl
      have hf1 : W5.frozen? ⟨g, i * 3 + 1, none⟩ = false := blk_frozen HGb.out _
      have hf2 : W5.frozen? ⟨g, i * 3 + 2, none⟩ = false := blk_frozen HGb.out _
      go_wp2
      go_ret3
      refine ⟨.slice (some ⟨g, 0, none⟩) lx.length c4, ?_, ?_, below_set (below_set HB5.out HG1.out.1) HG1.out.1⟩
      · rw [← E2.out, ← E3.out]; rfl
      · rw [← E1.out]
        obtain ⟨b1, s1, t1⟩ := Sl.block_set HGb.out (i * 3 + 1) (lx.length * 3) (.int .i64 (left - a3))
        obtain ⟨b2, s2, t2⟩ := Sl.block_set b1 (i * 3 + 2) (lx.length * 3) (.int .i64 a4)
        have hil := HL.out
        have q1 := Sl.set_cell (enc := enc49) (K := 3) (fun _ => rfl) (.int .i64 (left - a3)) 1 (by omega) ⟨f0, left - a3, f2⟩ lx i hil (by rw [← HX.out]; rfl)
        have q2 := Sl.set_cell (enc := enc49) (K := 3) (fun _ => rfl) (.int .i64 a4) 2 (by omega) ⟨f0, left - a3, a4⟩ (lx.set i ⟨f0, left - a3, f2⟩) i (by rw [List.length_set]; exact hil) (by rw [List.getElem_set_self]; rfl)
        rw [List.set_set] at q2
        have t3 := t2.trans (congrArg (fun z => z.set (i * 3 + 2) (.int .i64 a4)) (t1.trans (congrArg (fun z => z.set (i * 3 + 1) (.int .i64 (left - a3))) HG6.out)))
        have := Sl.R_block (ok := fun _ => True) (cap := c4) (xs := lx.set i ⟨f0, left - a3, a4⟩) flat49 HG1.out.1 b2 trivial (by rw [List.length_set]; exact HG4.out.1) HG4.out.2 (s2.trans (s1.trans HG5.out)) (by rw [List.length_set]; exact t3.trans ((congrArg (fun z => z.set (i * 3 + 2) (.int .i64 a4)) q1).trans q2))
        rw [List.length_set] at this
        exact this

end Go.Proofs.Ytkelkigkoceljaa.P
