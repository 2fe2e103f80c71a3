-- Written by wip/mk.py of this repo: the kit's print program, with contracts of our own among its functions.
import Derived.Test.YtleongigmjhegaaPx0
import Derived.Test.YtleongigmjhegaaPx2
namespace Go.Proofs.Ytleongigmjhegaa.P
open Go.RowKit Go.Proofs.YtleongigmjhegaaW.PrintWords Go.Proofs.YtleongigmjhegaaW.PrintLast Go.Proofs.YtleongigmjhegaaW.PrintMore
attribute [local go_sem] max2_int min2_int max_two min_two max_three min_three max_four min_four   -- for this text's walks alone
set_option linter.unusedVariables false
set_option linter.unusedSimpArgs false

/-! ### txn_Fold: function 10 -/
set_option maxHeartbeats 4000000 in
set_option maxRecDepth 100000 in
/-- slices.Insert of one element: at the end. -/
theorem insE27 (base : Nat) (v : Value) (l : List S27) (x : S27) (vb : Nat) (tv : TypeId) (w : World)
    (hR : Kd.R k27 27 w base (fun _ => True) v l) (hb : base ≤ w.heap.size) (hlen : (l.length + 1) * 40 ≤ 140737488355328)
    (hvb : w.heap[vb]? = some (.cells (enc27 x).toArray tv (0, 0))) :
    Calls Try.prog 27 #[v, .int .i64 l.length, .slice (some ⟨vb, 0, none⟩) 1 1] w fun e w' => ∃ v1, e = .returned v1 ∧ Kd.R k27 27 w' base (fun _ => True) v1 (l ++ [x]) ∧ w.grownBy w' v.ownBlock ∧ (v1.ownBlock = v.ownBlock ∨ ∃ b, v1.ownBlock = some b ∧ w.heap.size ≤ b) := by
  have HR := Aside0.mk hR
  have HV := Aside0.mk (Sl.row_one flat27 x hvb)
  obtain ⟨A, c, rfl⟩ := Kd.R_slice hR
  have hlc : l.length ≤ c := by obtain ⟨A', c', h1, h2, _⟩ := Kd.R_reads hR; injection h1 with _ _ h3; omega
  have huS := Try.underlying22
  clear hR hvb
  obtain ⟨ob, hob⟩ : ∃ ob, ob = (Value.slice A l.length c).ownBlock := ⟨_, rfl⟩
  rw [← hob]
  have HOB := Aside0.mk hob
  clear hob
  by_cases hcl : c = l.length
  case' pos => subst hcl
  all_goals
    go_enter Try.func27, Try.ntmps27
    go_wp2_with (at_builtin; refine Kd.R_append_rows k27 (Rr := k27.K w) (w0 := w) base rfl _ _ _ 27 (.agg #[(.int .i64 0), (.int .i64 0), (.int .i64 0), (.int .i64 0), (.int .i64 0)]) 40 rfl huS (by kernel_rfl) rfl (by decide) (by decide) _ l [x] (some ⟨vb, 0, none⟩) 1 1 (fun _ => True) (fun _ => False) rfl rfl HR.out HV.out (fun x cs hx => by rw [(flat27.k _ _ _).1 hx]; exact (flat27.m _ _ _ _ _).2 rfl) (fun _ hk => hk.elim) (fun _ _ => trivial) (Below.refl _ _) hb hlen ?_; intro v1 w1 hR1 _ hg1 ha1; have HR1 := Aside0.mk hR1; have HG1 : Aside0 (w.grownBy w1 ob) := ⟨HOB.out ▸ hg1⟩; have HA1 : Aside0 (v1.ownBlock = ob ∨ ∃ b, v1.ownBlock = some b ∧ w.heap.size ≤ b) := ⟨HOB.out ▸ ha1⟩; clear hR1 hg1 ha1)
    go_ret
    exact ⟨_, rfl, HR1.out, HG1.out, HA1.out⟩
set_option maxHeartbeats 4000000 in
set_option maxRecDepth 100000 in
/-- .. inside, no room: a new row. -/
theorem insG27 (base : Nat) (g c : Nat) (cur : Array Value) (l : List S27) (i : Nat) (x : S27) (vb : Nat) (tv : TypeId) (w : World)
    (hg : w.heap[g]? = some (.cells cur 27 (0, 0))) (hcur : cur.toList.take (l.length * 5) = l.flatMap enc27) (hcs : cur.size = c * 5) (hb : base ≤ w.heap.size) (hlen : (l.length + 1) * 40 ≤ 140737488355328) (hi : i < l.length) (hlc : l.length ≤ c) (hc : c < l.length + 1)
    (hvb : w.heap[vb]? = some (.cells (enc27 x).toArray tv (0, 0))) :
    Calls Try.prog 27 #[.slice (some ⟨g, 0, none⟩) l.length c, .int .i64 i, .slice (some ⟨vb, 0, none⟩) 1 1] w fun e w' => ∃ v1, e = .returned v1 ∧ Kd.R k27 27 w' base (fun _ => True) v1 (l.take i ++ x :: l.drop i) ∧ Below w.heap.size w w' ∧ (∃ b, v1.ownBlock = some b ∧ w.heap.size ≤ b) := by
  have HG := Aside0.mk hg
  have HV := Aside0.mk hvb
  have HCUR := Aside0.mk hcur
  have HCS := Aside0.mk hcs
  have huS := Try.underlying22
  have hui := Try.underlying3
  obtain ⟨n, hn⟩ : ∃ n, n = l.length := ⟨_, rfl⟩
  rw [← hn] at hlen hi hlc hc ⊢
  have HN := Aside0.mk hn
  clear hg hvb hcur hcs hn
  have hz1 : ((i : Int) == (n : Int)) = false := by rw [beq_eq_false_iff_ne]; omega
  have hz2 : ¬ (c = i) := by omega
  have hz3 : (c : Int) < (n : Int) + 1 := by omega
  have hz3b : decide ((c : Int) < (n : Int) + 1) = true := by rw [decide_eq_true_iff]; omega
  have hin : i ≤ n := by omega
  have hi0 : (0 : Int) ≤ (i : Int) := by omega
  go_enter Try.func27, Try.ntmps27
  have HM1 : Aside0 (Nat.min 1 (n + 1 - i) = 1) := ⟨Nat.min_eq_left (by omega)⟩
  have HXL : Aside0 ((enc27 x).length = 5) := ⟨rfl⟩
  go_wp2_with (first | (at_builtin; refine Sl.wpList_zerosK rfl _ _ 22 3 27 (.agg #[(.int .i64 0), (.int .i64 0), (.int .i64 0), (.int .i64 0), (.int .i64 0)]) 5 40 rfl huS hui (by kernel_rfl) rfl (by decide) (by decide) g i c rfl (n + 1 - i) rfl (by omega) cur 27 HG.out ?c1 (by omega) (by omega) (by omega) (n + 1) (by omega) ?_; (case c1 => have h9 := HCS.out; omega); intro w1 G cur1 HF1 HG1 HB1; obtain ⟨F1, F2, F3, F4⟩ := HF1.out; have HF3 := Aside0.mk F3; have HF4 := Aside0.mk F4; clear HF1 F3 F4; have hz4 : ¬ (G = i) := (by omega); have hz5 : ¬ (G = i + 1) := (by omega)) | ((with_reducible refine gate_builtin (b := .copy) rfl ?_); go_loud (refine Sl.wpList_copyK rfl _ _ 22 22 rfl 27 huS 5 (by kernel_rfl) w.heap.size (i * 5) _ _ ⟨vb, 0, none⟩ 1 1 rfl rfl cur1 27 HG1.out (enc27 x) (by rw [HM1.out]; rfl) (fun j u hu => by rw [add_plain, blk_cell (blk_below HV.out HB1.out)]; simpa using hu) (by rw [HXL.out, HF3.out]; omega) (flat27.one w x) ?_; intro w2 HG2 HGr2)))
  have HB12 : Aside0 (w2.heap[g]? = some (.cells cur 27 (0, 0))) := ⟨(HGr2.out.block g (by have := blk_lt (blk_below HG.out HB1.out); exact this) (by have := blk_lt HG.out; simp; omega)).trans (blk_below HG.out HB1.out)⟩
  have HDL : Aside0 (((l.drop i).flatMap enc27).length = (n - i) * 5) := ⟨by rw [flat27.flen w, List.length_drop, HN.out]; rfl⟩
  have HSRC : Aside0 (∀ j u, ((l.drop i).flatMap enc27)[j]? = some u → w2.cell? ((⟨g, i * 5, none⟩ : Addr).add j) = some u) := ⟨fun j u hu => by
    rw [Addr.add_lit, blk_cell HB12.out]
    rw [Sl.flat_drop flat27 w, ← HCUR.out, List.drop_take, List.getElem?_take] at hu
    split at hu
    · rw [List.getElem?_drop] at hu
      rw [← Array.getElem?_toList]; exact hu
    · cases hu⟩
  have hw1 : IntKind.i64.wrap ((i : Int) + 1) = (i : Int) + 1 := by rw [IntKind.wrap_i64]; omega
  have hb1 : (0 : Int) ≤ (i : Int) + 1 := by omega
  have htn : ((i : Int) + 1).toNat = i + 1 := by omega
  have hb3 : (i : Int) ≤ (n : Int) := by omega
  have HM2 : Aside0 (Nat.min (n - i) (n - i) = n - i) := ⟨Nat.min_self _⟩
  have HFIT : Aside0 ((i + 1) * 5 + ((l.drop i).flatMap enc27).length ≤ (cur1.toList.take (i * 5) ++ enc27 x ++ cur1.toList.drop (i * 5 + (enc27 x).length)).toArray.size) := ⟨by
    rw [List.size_toArray, Sl.len_splice _ _ _ (by rw [HXL.out, Array.length_toList, HF3.out]; omega), HDL.out, Array.length_toList, HF3.out]; omega⟩
  go_region_law (refine Sl.step_copyK (w := w2.drew) rfl (.tmp 50) (.tmp 53) 22 22 rfl 27 huS 5 (by kernel_rfl) w.heap.size ((i + 1) * 5) (n - i) (G - (i + 1)) ⟨g, i * 5, none⟩ (n - i) (c - i) (by simp [Act.eval, Act.put]) (by simp [Act.eval, Act.put]) (cur1.toList.take (i * 5) ++ enc27 x ++ cur1.toList.drop (i * 5 + (enc27 x).length)).toArray 27 HG2.out ((l.drop i).flatMap enc27) (by rw [HDL.out, HM2.out]) HSRC.out HFIT.out (flat27.fone w _) ?_; intro w3 HG3 HGr3)
  clear hw1 hb1 htn hb3 HFIT HSRC
  go_wp2
  go_ret
  have hB2 : Below w.heap.size w w2 := HB1.out.grown HGr2.out HB1.out.size (fun k hk => by injection hk with hk; omega)
  have hB3 : Below w.heap.size w w3 := (below_drew hB2).grown HGr3.out hB2.size (fun k hk => by injection hk with hk; omega)
  refine ⟨_, rfl, ?_, hB3, ⟨w.heap.size, rfl, Nat.le_refl _⟩⟩
  have hil : i ≤ l.length := by rw [← HN.out]; exact hin
  have h4 : cur1.toList.take (i * k27.sz) = (l.take i).flatMap enc27 := by
    rw [Sl.flat_take flat27 w, ← HCUR.out, List.take_take, Nat.min_eq_left (by rw [← HN.out]; exact Nat.mul_le_mul_right _ hin)]
    exact HF4.out
  obtain ⟨h5, h6⟩ := Sl.ins_new flat27 w cur1.toList l i x hil h4 (by have h9 : cur1.toList.length = G * 5 := Array.length_toList.trans HF3.out; rw [h9, ← HN.out]; exact Nat.mul_le_mul_right _ F1)
  have h7 := HG3.out
  have h8 := Sl.flat_ins flat27 w l i x hil
  have := Sl.R_block (ok := fun _ => True) (cap := G) (xs := l.take i ++ x :: l.drop i) flat27 hb h7 trivial (by rw [h8, ← HN.out]; exact F1) F2 (by rw [List.size_toArray]; refine Eq.trans h6 ?_; exact (Array.length_toList.trans HF3.out)) (by rw [h8]; exact h5)
  rw [h8, ← HN.out] at this
  exact this
set_option maxHeartbeats 4000000 in
set_option maxRecDepth 100000 in
/-- .. inside, there is room: in place. -/
theorem insR27 (base : Nat) (g c : Nat) (cur : Array Value) (l : List S27) (i : Nat) (x : S27) (vb : Nat) (tv : TypeId) (w : World)
    (hg : w.heap[g]? = some (.cells cur 27 (0, 0))) (hcur : cur.toList.take (l.length * 5) = l.flatMap enc27) (hcs : cur.size = c * 5) (hbg : base ≤ g) (hi : i < l.length) (hlc : l.length + 1 ≤ c) (hc63 : c ≤ 9223372036854775807)
    (hvb : w.heap[vb]? = some (.cells (enc27 x).toArray tv (0, 0))) (hne : vb ≠ g) :
    Calls Try.prog 27 #[.slice (some ⟨g, 0, none⟩) l.length c, .int .i64 i, .slice (some ⟨vb, 0, none⟩) 1 1] w fun e w' => ∃ v1, e = .returned v1 ∧ Kd.R k27 27 w' base (fun _ => True) v1 (l.take i ++ x :: l.drop i) ∧ w.grownBy w' (some g) ∧ v1.ownBlock = some g := by
  have HG := Aside0.mk hg
  have HV := Aside0.mk hvb
  have HCUR := Aside0.mk hcur
  have HCS := Aside0.mk hcs
  have huS := Try.underlying22
  have hui := Try.underlying3
  have hov : ∀ lb cb, (callFunc 39 #[.slice (some ⟨vb, 0, none⟩) 1 1, .slice (some ⟨g, (i + 1) * 5, none⟩) lb cb]).run Try.prog w = .ok (.value (.bool false)) w := fun lb cb => by
    rw [run_callFunc_extern Try.func39 (by kernel_rfl) (by kernel_rfl) (by kernel_rfl) (e := Extern.SlicesOverlaps.overlaps #[22, 22] #[4]) (by kernel_rfl),
      Lib.run_overlaps_apart w 22 4 27 huS 5 Try.sizeOf27 ⟨vb, 0, none⟩ ⟨g, (i + 1) * 5, none⟩ 1 1 lb cb hne tv 27 5 cur.size (by simp [World.shape?, hvb]; rfl) (by simp [World.shape?, hg]) (by rw [hcs]; omega) (blk_frozen hvb 0) (blk_frozen hvb _)]
    rfl
  obtain ⟨n, hn⟩ : ∃ n, n = l.length := ⟨_, rfl⟩
  rw [← hn] at hi hlc ⊢
  have HN := Aside0.mk hn
  clear hg hvb hcur hcs hn
  have hz1 : ((i : Int) == (n : Int)) = false := by rw [beq_eq_false_iff_ne]; omega
  have hz2 : ¬ (c = i) := by omega
  have hz3 : ¬ ((c : Int) < (n : Int) + 1) := by omega
  have hz3b : decide ((c : Int) < (n : Int) + 1) = false := by rw [decide_eq_false_iff_not]; omega
  have hin : i ≤ n := by omega
  have hi0 : (0 : Int) ≤ (i : Int) := by omega
  have hz4 : ¬ (c = i + 1) := by omega
  have HM1 : Aside0 (Nat.min 1 (n + 1 - i) = 1) := ⟨Nat.min_eq_left (by omega)⟩
  have HXL : Aside0 ((enc27 x).length = 5) := ⟨rfl⟩
  go_enter Try.func27, Try.ntmps27
  go_wp2_with (simp only [hov])
  have HDL : Aside0 (((l.drop i).flatMap enc27).length = (n - i) * 5) := ⟨by rw [flat27.flen w, List.length_drop, HN.out]; rfl⟩
  have HSRC : Aside0 (∀ j u, ((l.drop i).flatMap enc27)[j]? = some u → w.cell? ((⟨g, i * 5, none⟩ : Addr).add j) = some u) := ⟨fun j u hu => by
    rw [Addr.add_lit, blk_cell HG.out]
    rw [Sl.flat_drop flat27 w, ← HCUR.out, List.drop_take, List.getElem?_take] at hu
    split at hu
    · rw [List.getElem?_drop] at hu
      rw [← Array.getElem?_toList]; exact hu
    · cases hu⟩
  have HM2 : Aside0 (Nat.min (n + 1 - i) (n - i) = n - i) := ⟨Nat.min_eq_right (by omega)⟩
  have HFIT : Aside0 ((i + 1) * 5 + ((l.drop i).flatMap enc27).length ≤ cur.size) := ⟨by rw [HDL.out, HCS.out]; omega⟩
  have hw1 : IntKind.i64.wrap ((i : Int) + 1) = (i : Int) + 1 := by rw [IntKind.wrap_i64]; omega
  have hb1 : (0 : Int) ≤ (i : Int) + 1 := by omega
  have htn : ((i : Int) + 1).toNat = i + 1 := by omega
  have hb3 : (i : Int) ≤ (n : Int) := by omega
  have hb4 : (i : Int) ≤ (n : Int) + 1 := by omega
  go_region_law (refine Sl.step_copyK (w := w.drew) rfl (.tmp 73) (.tmp 76) 22 22 rfl 27 huS 5 (by kernel_rfl) g ((i + 1) * 5) (n - i) (c - (i + 1)) ⟨g, i * 5, none⟩ (n + 1 - i) (c - i) (by simp [Act.eval, Act.put]) (by simp [Act.eval, Act.put]) cur 27 HG.out ((l.drop i).flatMap enc27) (by rw [HDL.out, HM2.out]) HSRC.out HFIT.out (flat27.fone w _) ?_; intro w1 HG1 HGr1)
  clear hw1 hb1 htn hb3 HSRC hov
  have HV1 : Aside0 (w1.heap[vb]? = some (.cells (enc27 x).toArray tv (0, 0))) := ⟨(HGr1.out.block vb (blk_lt HV.out) (fun e => hne (Option.some.inj e))).trans HV.out⟩
  have HFIT2 : Aside0 (i * 5 + (enc27 x).length ≤ (cur.toList.take ((i + 1) * 5) ++ (l.drop i).flatMap enc27 ++ cur.toList.drop ((i + 1) * 5 + ((l.drop i).flatMap enc27).length)).toArray.size) := ⟨by
    rw [List.size_toArray, Sl.len_splice _ _ _ (by have := HFIT.out; rwa [Array.length_toList]), HXL.out, Array.length_toList, HCS.out]; omega⟩
  go_wp2_with ((with_reducible refine gate_builtin (b := .copy) rfl ?_); go_loud (refine Sl.wpList_copyK rfl _ _ 22 22 rfl 27 huS 5 (by kernel_rfl) g (i * 5) _ _ ⟨vb, 0, none⟩ 1 1 rfl rfl _ 27 HG1.out (enc27 x) (by rw [HM1.out]; rfl) (fun j u hu => by rw [add_plain, blk_cell HV1.out]; simpa using hu) HFIT2.out (flat27.one w x) ?_; intro w2 HG2 HGr2))
  go_ret
  have hgr : w.grownBy w2 (some g) := ⟨HGr2.out.os.trans HGr1.out.os, HGr2.out.tape.trans HGr1.out.tape, HGr2.out.output.trans HGr1.out.output, Nat.le_trans HGr1.out.size HGr2.out.size, fun k hk hne => (HGr2.out.block k (Nat.lt_of_lt_of_le hk HGr1.out.size) hne).trans (HGr1.out.block k hk hne)⟩
  refine ⟨_, rfl, ?_, hgr, rfl⟩
  have hil : i ≤ l.length := by rw [← HN.out]; exact hin
  have h4 : cur.toList.take (i * k27.sz) = (l.take i).flatMap enc27 := by
    rw [Sl.flat_take flat27 w, ← HCUR.out, List.take_take, Nat.min_eq_left (by rw [← HN.out]; exact Nat.mul_le_mul_right _ hin)]
  have h9 : cur.toList.length = c * 5 := Array.length_toList.trans HCS.out
  obtain ⟨h5, h6⟩ := Sl.ins_old flat27 w cur.toList l i x hil h4 (by rw [h9, ← HN.out]; exact Nat.mul_le_mul_right _ hlc)
  have h7 := HG2.out
  have h8 := Sl.flat_ins flat27 w l i x hil
  have := Sl.R_block (ok := fun _ => True) (cap := c) (xs := l.take i ++ x :: l.drop i) flat27 hbg h7 trivial (by rw [h8, ← HN.out]; exact hlc) hc63 (by rw [List.size_toArray]; refine Eq.trans h6 ?_; exact h9) (by rw [h8]; exact h5)
  rw [h8, ← HN.out] at this
  exact this
/-- slices.Insert of one element, whatever the room. -/
theorem ins27 (base : Nat) (v : Value) (l : List S27) (i : Nat) (x : S27) (vb : Nat) (tv : TypeId) (w : World)
    (hR : Kd.R k27 27 w base (fun _ => True) v l) (hb : base ≤ w.heap.size) (hi : i ≤ l.length) (hlen : (l.length + 1) * 40 ≤ 140737488355328)
    (hvb : w.heap[vb]? = some (.cells (enc27 x).toArray tv (0, 0))) (hne : v.ownBlock ≠ some vb) :
    Calls Try.prog 27 #[v, .int .i64 i, .slice (some ⟨vb, 0, none⟩) 1 1] w fun e w' => ∃ v1, e = .returned v1 ∧ Kd.R k27 27 w' base (fun _ => True) v1 (l.take i ++ x :: l.drop i) ∧ w.grownBy w' v.ownBlock ∧ (v1.ownBlock = v.ownBlock ∨ ∃ b, v1.ownBlock = some b ∧ w.heap.size ≤ b) := by
  rcases Nat.lt_or_ge i l.length with h | h
  · obtain ⟨g, c, cur, rfl, hg1, hg2, hg3, hg4, hg5, hg6⟩ := Sl.R_open flat27 hR (by omega)
    rcases Nat.lt_or_ge c (l.length + 1) with hc | hc
    · refine (insG27 base g c cur l i x vb tv w hg2 hg6 hg5 hb hlen h hg3 hc hvb).mono ?_
      rintro e w' ⟨v1, h1, h2, h3, h4⟩
      exact ⟨v1, h1, h2, grown_of_below h3 _, .inr h4⟩
    · refine (insR27 base g c cur l i x vb tv w hg2 hg6 hg5 hg1 h hc hg4 hvb (fun e => hne (by simp [Value.ownBlock, e]))).mono ?_
      rintro e w' ⟨v1, h1, h2, h3, h4⟩
      exact ⟨v1, h1, h2, by simpa [Value.ownBlock] using h3, .inl (by rw [h4]; rfl)⟩
  · obtain rfl : i = l.length := by omega
    rw [List.take_length, List.drop_length]
    exact insE27 base v l x vb tv w hR hb hlen hvb
set_option maxHeartbeats 4000000 in
set_option maxRecDepth 100000 in
theorem cmp27 (f0 f1 f2 f3 f4 t : Int) (w : World) (h1 : -9223372036854775808 ≤ f0 - t) (h2 : f0 - t ≤ 9223372036854775807) :
    Calls Try.prog 38 #[.agg #[.int .i64 f0, .int .i64 f1, .int .i64 f2, .int .i64 f3, .int .i64 f4], .int .i64 t] w fun e w' => e = .returned (.int .i64 (f0 - t)) ∧ Below w.heap.size w w' := by
  go_enter Try.func38, Try.ntmps38
  go_wp2
  go_ret
  exact ⟨rfl, below_alloc (Below.refl _ _) _⟩
def lt027 (l : List S27) (t : Int) : Nat := (l.takeWhile fun x => decide (x.f0 < t)).length
theorem lt0_is27 (t : Int) : ∀ (l : List S27) (i : Nat), i ≤ l.length → (∀ q : Nat, q < i → (rd_T27 l (q : Int)).f0 < t) → (i < l.length → t ≤ (rd_T27 l (i : Int)).f0) → lt027 l t = i
  | [], i, hi, _, _ => by
    have : i = 0 := by simpa using hi
    subst this; rfl
  | x :: l, i, hi, h1, h2 => by
    unfold lt027
    cases i with
    | zero =>
      have := h2 (by simp)
      simp only [rd_T27, Int.toNat_natCast, List.getD_cons_zero] at this
      rw [List.takeWhile_cons, if_neg (by simp; omega)]; rfl
    | succ i =>
      have h0 := h1 0 (by omega)
      simp only [rd_T27, Int.toNat_natCast, List.getD_cons_zero] at h0
      have ih := lt0_is27 t l i (by simpa using hi) (fun q hq => by have := h1 (q + 1) (by omega); simpa [rd_T27] using this) (fun hlt => by have := h2 (by simpa using hlt); simpa [rd_T27] using this)
      rw [List.takeWhile_cons, if_pos (by simpa using h0), List.length_cons]
      unfold lt027 at ih
      rw [ih]
theorem sorted_le27 {l : List S27} (hs : l.Pairwise fun a b => a.f0 < b.f0) {p q : Nat} (hpq : p ≤ q) (hq : q < l.length) : (rd_T27 l (p : Int)).f0 ≤ (rd_T27 l (q : Int)).f0 := by
  rcases Nat.lt_or_ge p q with h | h
  · have := List.pairwise_iff_getElem.1 hs p q (by omega) hq h
    simp only [rd_T27, Int.toNat_natCast, List.getD_eq_getElem?_getD, List.getElem?_eq_getElem hq, List.getElem?_eq_getElem (show p < l.length by omega), Option.getD_some]
    omega
  · obtain rfl : p = q := by omega
    exact Int.le_refl _
set_option maxHeartbeats 8000000 in
set_option maxRecDepth 100000 in
theorem bs27 (A0 : Option Addr) (c0 : Nat) (l0 : List S27) (t : Int) (w : World) (hr0 : Kd.C k27 w A0 l0.length l0) (hc0 : l0.length ≤ c0) (hs : l0.Pairwise fun a b => a.f0 < b.f0)
    (hbd : ∀ x ∈ l0, -9223372036854775808 ≤ x.f0 - t ∧ x.f0 - t ≤ 9223372036854775807) (hl : l0.length ≤ 4611686018427387903) :
    Calls Try.prog 37 #[.slice A0 l0.length c0, .int .i64 t, .func (.func 38) #[] #[]] w fun e w' => e = .returned (.tuple #[.int .i64 (lt027 l0 t), .bool (decide (lt027 l0 t < l0.length ∧ (rd_T27 l0 (lt027 l0 t : Int)).f0 = t))]) ∧ Below w.heap.size w w' := by
  have HC := Aside0.mk hr0
  have HS := Aside0.mk hs
  have HBD : Aside0 (∀ q : Nat, q < l0.length → -9223372036854775808 ≤ (rd_T27 l0 (q : Int)).f0 - t ∧ (rd_T27 l0 (q : Int)).f0 - t ≤ 9223372036854775807) := ⟨fun q hq => hbd _ (by
    simp only [rd_T27, Int.toNat_natCast, List.getD_eq_getElem?_getD, List.getElem?_eq_getElem hq, Option.getD_some]; exact List.getElem_mem hq)⟩
  have eg : ∀ args w, (callFunc 38 args).run Try.prog w = .ok (.enter 38 args) w := fun args w => enters_ Try.func38 (by kernel_rfl) (by kernel_rfl) args w
  clear hr0 hs hbd
  go_enter Try.func37, Try.ntmps37
  go_wp2
  go_loopw [9, 10] (fun v9 v10 wr => ∃ i j : Nat, i ≤ j ∧ j ≤ l0.length ∧ v9 = .int .i64 i ∧ v10 = .int .i64 j ∧ Aside0 (Below w.heap.size w wr) ∧ Aside0 (∀ q : Nat, q < i → (rd_T27 l0 (q : Int)).f0 < t) ∧ Aside0 (∀ q : Nat, j ≤ q → q < l0.length → t ≤ (rd_T27 l0 (q : Int)).f0)) (fun v9 v10 _ => (intOf v10).toNat - (intOf v9).toNat)
  case atStart =>
    exact ⟨0, l0.length, Nat.zero_le _, Nat.le_refl _, rfl, rfl, ⟨Below.refl _ _⟩, ⟨fun q hq => absurd hq (Nat.not_lt_zero _)⟩, ⟨fun q h1 h2 => by omega⟩⟩
  case round =>
    obtain ⟨i, j, hij, hj, rfl, rfl, HB, HP, HQ⟩ := hrel
    by_cases hlt : i < j
    · have hji : (i : Int) < (j : Int) := by omega
      obtain ⟨m, hm⟩ : ∃ m, m = (i + j) / 2 := ⟨_, rfl⟩
      have hm1 : i ≤ m := by omega
      have hm2 : m < j := by omega
      have hmm : ((i : Int) + (j : Int)) / 2 = (m : Int) := by omega
      have hml : (m : Int) < (l0.length : Int) := by omega
      have hm0 : 0 ≤ (m : Int) := by omega
      clear hm
      obtain ⟨ad, eA, hx0, hx1, hx2, hx3, hx4⟩ := at_T27 HC.out (m : Int) hm0 hml
      cases eA
      replace hx0 := (HB.out.cell (World.block_lt_of_cell? w _ hx0)).trans hx0; replace hx1 := (HB.out.cell (World.block_lt_of_cell? w _ hx1)).trans hx1; replace hx2 := (HB.out.cell (World.block_lt_of_cell? w _ hx2)).trans hx2; replace hx3 := (HB.out.cell (World.block_lt_of_cell? w _ hx3)).trans hx3; replace hx4 := (HB.out.cell (World.block_lt_of_cell? w _ hx4)).trans hx4
      rw [Int.toNat_natCast] at hx0 hx1 hx2 hx3 hx4
      obtain ⟨hb1, hb2⟩ := HBD.out m (by omega)
      obtain ⟨x, hx⟩ : ∃ x, x = rd_T27 l0 (m : Int) := ⟨_, rfl⟩
      rw [← hx] at hx0 hx1 hx2 hx3 hx4 hb1 hb2
      have HX := Aside0.mk hx
      clear hx
      obtain ⟨f0, f1, f2, f3, f4⟩ := x
      dsimp only at hx0 hx1 hx2 hx3 hx4 hb1 hb2
      have HCMP := Aside0.mk (fun w => cmp27 f0 f1 f2 f3 f4 t w hb1 hb2)
      clear hb1 hb2
      by_cases hq : f0 < t
      · have hq1 : f0 - t < 0 := by omega
        go_wp2_with (fail)
        refine (HCMP.out _).mono ?_
        rintro e w1 ⟨rfl, hd⟩
        have HD := Aside0.mk hd
        clear hd HCMP
        go_wp2
        go_roundw
        case rel =>
          refine ⟨m + 1, j, by omega, hj, by go_num, rfl, ⟨below_step HB.out HD.out⟩, ⟨fun q hq2 => ?_⟩, HQ⟩
          have h1 := sorted_le27 HS.out (show q ≤ m by omega) (by omega)
          rw [← HX.out] at h1
          exact Int.lt_of_le_of_lt h1 hq
        case measure => simp [intOf]; omega
      · have hq1 : 0 ≤ f0 - t := by omega
        go_wp2_with (fail)
        refine (HCMP.out _).mono ?_
        rintro e w1 ⟨rfl, hd⟩
        have HD := Aside0.mk hd
        clear hd HCMP
        go_wp2
        go_roundw
        case rel =>
          refine ⟨i, m, hm1, by omega, rfl, rfl, ⟨below_step HB.out HD.out⟩, HP, ⟨fun q hq2 hq3 => ?_⟩⟩
          have h1 := sorted_le27 HS.out hq2 hq3
          rw [← HX.out] at h1
          exact Int.le_trans (by omega) h1
        case measure => simp [intOf]; omega
    · obtain rfl : i = j := by omega
      have hlt0 := lt0_is27 t l0 i hj HP.out (fun h => HQ.out i (Nat.le_refl _) h)
      have HL0 := Aside0.mk hlt0
      clear hlt0
      have hji : ¬ ((i : Int) < (i : Int)) := by omega
      by_cases hin : i < l0.length
      · have hml : (i : Int) < (l0.length : Int) := by omega
        have hm0 : 0 ≤ (i : Int) := by omega
        obtain ⟨ad, eA, hx0, hx1, hx2, hx3, hx4⟩ := at_T27 HC.out (i : Int) hm0 hml
        cases eA
        replace hx0 := (HB.out.cell (World.block_lt_of_cell? w _ hx0)).trans hx0; replace hx1 := (HB.out.cell (World.block_lt_of_cell? w _ hx1)).trans hx1; replace hx2 := (HB.out.cell (World.block_lt_of_cell? w _ hx2)).trans hx2; replace hx3 := (HB.out.cell (World.block_lt_of_cell? w _ hx3)).trans hx3; replace hx4 := (HB.out.cell (World.block_lt_of_cell? w _ hx4)).trans hx4
        rw [Int.toNat_natCast] at hx0 hx1 hx2 hx3 hx4
        obtain ⟨hb1, hb2⟩ := HBD.out i (by omega)
        obtain ⟨x, hx⟩ : ∃ x, x = rd_T27 l0 (i : Int) := ⟨_, rfl⟩
        rw [← hx] at hx0 hx1 hx2 hx3 hx4 hb1 hb2
        have HX := Aside0.mk hx
        clear hx
        obtain ⟨f0, f1, f2, f3, f4⟩ := x
        dsimp only at hx0 hx1 hx2 hx3 hx4 hb1 hb2
        have HCMP := Aside0.mk (fun w => cmp27 f0 f1 f2 f3 f4 t w hb1 hb2)
        clear hb1 hb2
        go_wp2_with (fail)
        refine (HCMP.out _).mono ?_
        rintro e w1 ⟨rfl, hd⟩
        have HD := Aside0.mk hd
        clear hd HCMP
        go_wp2
        go_ret2
        refine ⟨?_, below_step HB.out HD.out⟩
        rw [HL0.out, ← HX.out]
        have h9 : (f0 - t == 0) = decide (i < l0.length ∧ f0 = t) := by
          rw [Bool.eq_iff_iff, beq_iff_eq, decide_eq_true_iff]; omega
        show Ending.returned (.tuple #[.int .i64 (i : Int), .bool (f0 - t == 0)]) = _
        rw [h9]
      · go_wp2
        go_ret2
        refine ⟨?_, HB.out⟩
        have h9 : decide (lt027 l0 t < l0.length) = false := decide_eq_false (fun h => hin (HL0.out ▸ h))
        have e1 : (lt027 l0 t : Int) = (i : Int) := by rw [HL0.out]
        refine Eq.trans (b := Ending.returned (.tuple #[.int .i64 (lt027 l0 t : Int), .bool false])) ?_ (by rw [h9, Bool.false_and])
        rw [e1]
        rfl
set_option maxHeartbeats 4000000 in
set_option maxRecDepth 100000 in
theorem find_bs27 (A0 : Option Addr) (c0 : Nat) (l0 : List S27) (t : Int) (w : World) (hr0 : Kd.C k27 w A0 l0.length l0) (hc0 : l0.length ≤ c0) (hs : l0.Pairwise fun a b => a.f0 < b.f0)
    (hbd : ∀ x ∈ l0, -9223372036854775808 ≤ x.f0 - t ∧ x.f0 - t ≤ 9223372036854775807) (hl : l0.length ≤ 4611686018427387903) :
    Calls Try.prog 26 #[.slice A0 l0.length c0, .int .i64 t] w fun e w' => e = .returned (.tuple #[.int .i64 (lt027 l0 t), .bool (decide (lt027 l0 t < l0.length ∧ (rd_T27 l0 (lt027 l0 t : Int)).f0 = t))]) ∧ Below w.heap.size w w' := by
  have HBS := Aside0.mk (fun w hr => bs27 A0 c0 l0 t w hr hc0 hs hbd hl)
  have HR := Aside0.mk hr0
  obtain ⟨i, hi⟩ : ∃ i, i = lt027 l0 t := ⟨_, rfl⟩
  rw [← hi] at HBS ⊢
  obtain ⟨b, hb⟩ : ∃ b, b = decide (i < l0.length ∧ (rd_T27 l0 (i : Int)).f0 = t) := ⟨_, rfl⟩
  rw [← hb] at HBS ⊢
  clear hr0 hc0 hs hbd hl hi hb
  go_enter Try.func26, Try.ntmps26
  go_wp2_with (fail)
  refine (HBS.out _ HR.out).mono ?_
  rintro e w1 ⟨rfl, hb⟩
  have HB := Aside0.mk hb
  clear hb
  go_wp2
  go_ret2
  exact ⟨rfl, HB.out⟩
theorem lt0_le27 (l : List S27) (t : Int) : lt027 l t ≤ l.length := by
  unfold lt027
  exact (List.takeWhile_prefix _).length_le
/-- A row that is known whole. -/
def row27 (W : World) (g : Nat) (l : List S27) (c : Nat) : Prop := ∃ cur : Array Value, W.heap[g]? = some (.cells cur 27 (0, 0)) ∧ cur.size = c * 5 ∧ cur.toList.take (l.length * 5) = l.flatMap enc27
theorem row_frozen27 {W : World} {g : Nat} {l : List S27} {c : Nat} (h : row27 W g l c) (p : Nat) : W.frozen? ⟨g, p, none⟩ = false := by
  obtain ⟨cur, h1, _, _⟩ := h
  exact blk_frozen h1 p
theorem row_cell27 {W : World} {g : Nat} {l : List S27} {c i : Nat} {x : S27} (h : row27 W g (l.set i x) c) (hi : i < l.length) (j : Nat) (hj : j < 5) (u : Value) (hu : (enc27 x)[j]? = some u) : W.cell? ⟨g, i * 5 + j, none⟩ = some u := by
  obtain ⟨cur, h1, h2, h3⟩ := h
  rw [blk_cell h1, ← Array.getElem?_toList]
  have h4 := congrArg (fun z => z[i * 5 + j]?) h3
  rw [List.length_set, List.getElem?_take, if_pos (by omega), Sl.flat_get (K := 5) (fun _ => rfl) (l.set i x) i j (by rw [List.length_set]; exact hi) hj, List.getElem_set_self] at h4
  rw [h4]; exact hu
theorem row_set27 {W : World} {g : Nat} {l : List S27} {c i : Nat} {x : S27} (h : row27 W g (l.set i x) c) (hi : i < l.length) (j : Nat) (hj : j < 5) (u : Value) (y : S27) (hy : enc27 y = (enc27 x).set j u) : row27 (W.setCell ⟨g, i * 5 + j, none⟩ u) g (l.set i y) c := by
  obtain ⟨cur, h1, h2, h3⟩ := h
  obtain ⟨b1, s1, t1⟩ := Sl.block_set h1 (i * 5 + j) (l.length * 5) u
  refine ⟨_, b1, s1.trans h2, ?_⟩
  rw [List.length_set] at h3 ⊢
  have q := Sl.set_cell (enc := enc27) (K := 5) (fun _ => rfl) u j hj y (l.set i x) i (by rw [List.length_set]; exact hi) (by rw [List.getElem_set_self]; exact hy)
  rw [List.set_set] at q
  exact t1.trans ((congrArg (fun z => z.set (i * 5 + j) u) h3).trans q)
theorem row_R27 {W : World} {g : Nat} {l : List S27} {c base : Nat} (h : row27 W g l c) (hb : base ≤ g) (h1 : l.length ≤ c) (h2 : c ≤ 9223372036854775807) : Kd.R k27 27 W base (fun _ => True) (.slice (some ⟨g, 0, none⟩) l.length c) l := by
  obtain ⟨cur, h3, h4, h5⟩ := h
  exact Sl.R_block flat27 hb h3 trivial h1 h2 h4 h5
theorem row_drawn27 {W : World} {g : Nat} {l : List S27} {c : Nat} (h : row27 W g l c) (m : Nat) : row27 (W.drewN m) g l c := by
  obtain ⟨cur, h3, h4, h5⟩ := h
  exact ⟨cur, blk_drewN h3 m, h4, h5⟩
def txn_Fold.okB (l : List S27) (kind pid : Int) : Bool :=
  l.all (fun x => decide (1 ≤ x.f0 ∧ x.f0 ≤ 8 ∧ 1 ≤ x.f1 ∧ x.f1 ≤ 1099511627776)) && decide (l.Pairwise fun a b => a.f0 < b.f0) && decide (l.length ≤ 8) && decide (1 ≤ kind ∧ kind ≤ 5 ∧ 1 ≤ pid ∧ pid ≤ 8)
def txn_Fold.turn (x : S27) (kind parts : Int) : Option S27 :=
  if kind = 1 then (if x.f2 = 1 then some ⟨x.f0, x.f1 + 1, x.f2, 0, 0⟩ else none)
  else if kind = 2 then (if x.f2 = 1 ∨ x.f2 = 2 then some ⟨x.f0, x.f1, 2, Go.bits .or .i64 x.f3 parts, x.f4⟩ else none)
  else if kind = 5 then (if x.f2 = 3 ∨ x.f2 = 4 then some ⟨x.f0, x.f1 + 1, 1, 0, x.f2⟩ else none)
  else (if x.f2 = 2 then some ⟨x.f0, x.f1, kind, x.f3, x.f4⟩ else none)
def txn_Fold.f (l0 : List S27) (a1_0 a1_1 a1_2 : Int) : Option (List S27 × Int) :=
  (txn_Check.f a1_0 a1_1 a1_2).bind fun e => if e = 0 then ((txn_right.f l0).bind fun r => if r = true then
    (if txn_Fold.okB l0 a1_0 a1_1 = true then
      (if lt027 l0 a1_1 < l0.length ∧ (rd_T27 l0 (lt027 l0 a1_1 : Int)).f0 = a1_1 then
        (match txn_Fold.turn (rd_T27 l0 (lt027 l0 a1_1 : Int)) a1_0 a1_2 with
          | none => some ([], 9)
          | some y => if y.f1 > 1099511627776 then some ([], 6) else some (l0.set (lt027 l0 a1_1) y, 0))
      else if a1_0 = 1 then some (l0.take (lt027 l0 a1_1) ++ ⟨a1_1, 1, 1, 0, 0⟩ :: l0.drop (lt027 l0 a1_1), 0) else some ([], 3))
    else none) else some ([], 1)) else some ([], 1)
set_option maxHeartbeats 16000000 in
set_option maxRecDepth 100000 in
theorem txn_Fold.calls (A0 : Option Addr) (c0 : Nat) (l0 : List S27) (a1_0 a1_1 a1_2 : Int) (r1 : List S27) (r2 : Int) (w : World) (hr0 : Kd.C k27 w A0 l0.length l0) (hc0 : l0.length ≤ c0) (h : txn_Fold.f l0 a1_0 a1_1 a1_2 = some (r1, r2)) :
    Calls Try.prog 10 #[.slice A0 l0.length c0, .agg #[.int .i64 a1_0, .int .i64 a1_1, .int .i64 a1_2]] w fun e w' => ∃ v0_ : Value, e = .returned (.tuple #[v0_, .int .i64 r2]) ∧ Kd.R k27 27 w' w.heap.size (fun _ => True) v0_ r1 ∧ Below w.heap.size w w' := by
  have HR := Aside0.mk hr0
  have HC := Aside0.mk hc0
  have HB0 := Aside0.mk (Below.refl w.heap.size w)
  clear hr0 hc0
  obtain ⟨ec, hec, h⟩ := Option.bind_eq_some_iff.mp h
  have AC := Aside0.mk hec
  clear hec
  by_cases h1 : ec = 0
  case neg =>
    have hzb : (ec != 0) = true := bne_iff_ne.mpr h1
    rw [if_neg h1] at h
    injection h with h
    injection h with h2 h3
    have HE2 := Aside0.mk h3
    subst h2
    clear h1 h3
    have huNote := Try.underlying24
    go_enter Try.func10, Try.ntmps10
    go_wp2_with (first | ((with_reducible refine gate_dst (N := 3) rfl ?_); refine box_event ?hg (N := 3) ?hd (cs := #[.int .i64 a1_0, .int .i64 a1_1, .int .i64 a1_2]) (t := 24) ?hr ?_; (case hd => rfl); (case hg => rfl); (case hr => first | (go_simp; done) | (go_simp; rfl)); intro gb hg w1 hbox hb; have HB := Aside0.mk (below_step HB0.out hb); have BK := Aside0.mk hbox; have GW : w.heap.size ≤ gb := (by rw [hg]; exact Nat.le_refl _); clear hb hbox hg; have hc0 : w1.cell? ⟨gb, 0, none⟩ = some (.int .i64 a1_0) := (blk_cell BK.out 0).trans rfl; have hc1 : w1.cell? ⟨gb, 1, none⟩ = some (.int .i64 a1_1) := (blk_cell BK.out 1).trans rfl; have hc2 : w1.cell? ⟨gb, 2, none⟩ = some (.int .i64 a1_2) := (blk_cell BK.out 2).trans rfl) | (go_at_call 23; fail))
    refine (txn_Check.calls a1_0 a1_1 a1_2 _ _ AC.out).mono ?_
    rintro e w2 ⟨rfl, hb⟩
    have HBn := Aside0.mk (below_step HB.out hb)
    have BKn := Aside0.mk (blk_below BK.out hb)
    clear hb hc0 hc1 hc2 HB BK
    have HB := HBn
    have BK := BKn
    clear HBn BKn
    have hc0 : w2.cell? ⟨gb, 0, none⟩ = some (.int .i64 a1_0) := (blk_cell BK.out 0).trans rfl
    have hc1 : w2.cell? ⟨gb, 1, none⟩ = some (.int .i64 a1_1) := (blk_cell BK.out 1).trans rfl
    have hc2 : w2.cell? ⟨gb, 2, none⟩ = some (.int .i64 a1_2) := (blk_cell BK.out 2).trans rfl
    go_wp2
    go_ret2
    refine ⟨_, ?_, Kd.R_nil _ _ _ _ _, HB.out⟩
    rw [← HE2.out]
    rfl
  have hzb : (ec != 0) = false := bne_eq_false_iff_eq.mpr h1
  subst h1
  rw [if_pos rfl] at h
  obtain ⟨tr, htr, h⟩ := Option.bind_eq_some_iff.mp h
  have AR := Aside0.mk htr
  clear htr
  by_cases h1 : tr = true
  case neg =>
    obtain rfl : tr = false := by simpa using h1
    rw [if_neg h1] at h
    injection h with h
    injection h with h2 h3
    have HE2 := Aside0.mk h3
    subst h2
    clear h1 h3
    have huNote := Try.underlying24
    go_enter Try.func10, Try.ntmps10
    go_wp2_with (first | ((with_reducible refine gate_dst (N := 3) rfl ?_); refine box_event ?hg (N := 3) ?hd (cs := #[.int .i64 a1_0, .int .i64 a1_1, .int .i64 a1_2]) (t := 24) ?hr ?_; (case hd => rfl); (case hg => rfl); (case hr => first | (go_simp; done) | (go_simp; rfl)); intro gb hg w1 hbox hb; have HB := Aside0.mk (below_step HB0.out hb); have BK := Aside0.mk hbox; have GW : w.heap.size ≤ gb := (by rw [hg]; exact Nat.le_refl _); clear hb hbox hg; have hc0 : w1.cell? ⟨gb, 0, none⟩ = some (.int .i64 a1_0) := (blk_cell BK.out 0).trans rfl; have hc1 : w1.cell? ⟨gb, 1, none⟩ = some (.int .i64 a1_1) := (blk_cell BK.out 1).trans rfl; have hc2 : w1.cell? ⟨gb, 2, none⟩ = some (.int .i64 a1_2) := (blk_cell BK.out 2).trans rfl) | (go_at_call 23; fail))
    refine (txn_Check.calls a1_0 a1_1 a1_2 _ _ AC.out).mono ?_
    rintro e w2 ⟨rfl, hb⟩
    have HBn := Aside0.mk (below_step HB.out hb)
    have BKn := Aside0.mk (blk_below BK.out hb)
    clear hb hc0 hc1 hc2 HB BK
    have HB := HBn
    have BK := BKn
    clear HBn BKn
    have hc0 : w2.cell? ⟨gb, 0, none⟩ = some (.int .i64 a1_0) := (blk_cell BK.out 0).trans rfl
    have hc1 : w2.cell? ⟨gb, 1, none⟩ = some (.int .i64 a1_1) := (blk_cell BK.out 1).trans rfl
    have hc2 : w2.cell? ⟨gb, 2, none⟩ = some (.int .i64 a1_2) := (blk_cell BK.out 2).trans rfl
    go_wp2_with (go_at_call 24; fail)
    refine (txn_right.calls _ _ l0 _ _ (Kd.C_below HR.out HB.out) HC.out AR.out).mono ?_
    rintro e w3 ⟨rfl, hb⟩
    have HBn := Aside0.mk (below_step HB.out hb)
    have BKn := Aside0.mk (blk_below BK.out hb)
    clear hb hc0 hc1 hc2 HB BK
    have HB := HBn
    have BK := BKn
    clear HBn BKn
    have hc0 : w3.cell? ⟨gb, 0, none⟩ = some (.int .i64 a1_0) := (blk_cell BK.out 0).trans rfl
    have hc1 : w3.cell? ⟨gb, 1, none⟩ = some (.int .i64 a1_1) := (blk_cell BK.out 1).trans rfl
    have hc2 : w3.cell? ⟨gb, 2, none⟩ = some (.int .i64 a1_2) := (blk_cell BK.out 2).trans rfl
    go_wp2
    go_ret2
    refine ⟨_, ?_, Kd.R_nil _ _ _ _ _, HB.out⟩
    rw [← HE2.out]
    rfl
  subst h1
  rw [if_pos rfl] at h
  split at h
  case isFalse => cases h
  rename_i hok
  simp only [txn_Fold.okB, Bool.and_eq_true, decide_eq_true_eq, List.all_eq_true] at hok
  obtain ⟨⟨⟨k1, k2⟩, k3⟩, k4, k5, k6, k7⟩ := hok
  have K1 := Aside0.mk k1
  have K2 := Aside0.mk k2
  clear k1 k2
  have HBS := Aside0.mk (fun (A : Option Addr) (c : Nat) (w : World) hr hc => find_bs27 A c l0 a1_1 w hr hc K2.out (fun x hx => by have := K1.out x hx; omega) (by omega))
  have hle := lt0_le27 l0 a1_1
  obtain ⟨i, hi⟩ : ∃ i, i = lt027 l0 a1_1 := ⟨_, rfl⟩
  rw [← hi] at h HBS hle
  clear hi
  have H := Aside0.mk h
  clear h
  by_cases hf : i < l0.length ∧ (rd_T27 l0 (i : Int)).f0 = a1_1
  case neg =>
    have HF : Aside0 (decide (i < l0.length ∧ (rd_T27 l0 (i : Int)).f0 = a1_1) = false) := ⟨decide_eq_false hf⟩
    have H0 := H.out
    rw [if_neg hf] at H0
    clear H hf
    by_cases hk1 : a1_0 = 1
    case neg =>
      have hkb : (a1_0 != 1) = true := bne_iff_ne.mpr hk1
      rw [if_neg hk1] at H0
      injection H0 with H0
      injection H0 with h2 h3
      have HE2 := Aside0.mk h3
      subst h2
      clear hk1 h3
      have huNote := Try.underlying24
      go_enter Try.func10, Try.ntmps10
      go_wp2_with (first | ((with_reducible refine gate_dst (N := 3) rfl ?_); refine box_event ?hg (N := 3) ?hd (cs := #[.int .i64 a1_0, .int .i64 a1_1, .int .i64 a1_2]) (t := 24) ?hr ?_; (case hd => rfl); (case hg => rfl); (case hr => first | (go_simp; done) | (go_simp; rfl)); intro gb hg w1 hbox hb; have HB := Aside0.mk (below_step HB0.out hb); have BK := Aside0.mk hbox; have GW : w.heap.size ≤ gb := (by rw [hg]; exact Nat.le_refl _); clear hb hbox hg; have hc0 : w1.cell? ⟨gb, 0, none⟩ = some (.int .i64 a1_0) := (blk_cell BK.out 0).trans rfl; have hc1 : w1.cell? ⟨gb, 1, none⟩ = some (.int .i64 a1_1) := (blk_cell BK.out 1).trans rfl; have hc2 : w1.cell? ⟨gb, 2, none⟩ = some (.int .i64 a1_2) := (blk_cell BK.out 2).trans rfl) | (go_at_call 23; fail))
      refine (txn_Check.calls a1_0 a1_1 a1_2 _ _ AC.out).mono ?_
      rintro e w2 ⟨rfl, hb⟩
      have HBn := Aside0.mk (below_step HB.out hb)
      have BKn := Aside0.mk (blk_below BK.out hb)
      clear hb hc0 hc1 hc2 HB BK
      have HB := HBn
      have BK := BKn
      clear HBn BKn
      have hc0 : w2.cell? ⟨gb, 0, none⟩ = some (.int .i64 a1_0) := (blk_cell BK.out 0).trans rfl
      have hc1 : w2.cell? ⟨gb, 1, none⟩ = some (.int .i64 a1_1) := (blk_cell BK.out 1).trans rfl
      have hc2 : w2.cell? ⟨gb, 2, none⟩ = some (.int .i64 a1_2) := (blk_cell BK.out 2).trans rfl
      go_wp2_with (go_at_call 24; fail)
      refine (txn_right.calls _ _ l0 _ _ (Kd.C_below HR.out HB.out) HC.out AR.out).mono ?_
      rintro e w3 ⟨rfl, hb⟩
      have HBn := Aside0.mk (below_step HB.out hb)
      have BKn := Aside0.mk (blk_below BK.out hb)
      clear hb hc0 hc1 hc2 HB BK
      have HB := HBn
      have BK := BKn
      clear HBn BKn
      have hc0 : w3.cell? ⟨gb, 0, none⟩ = some (.int .i64 a1_0) := (blk_cell BK.out 0).trans rfl
      have hc1 : w3.cell? ⟨gb, 1, none⟩ = some (.int .i64 a1_1) := (blk_cell BK.out 1).trans rfl
      have hc2 : w3.cell? ⟨gb, 2, none⟩ = some (.int .i64 a1_2) := (blk_cell BK.out 2).trans rfl
      have hb40 : l0.length * 40 ≤ 140737488355328 := by omega
      go_wp2_with (fail)
      refine (clone27 _ _ l0 _ (Kd.C_below HR.out HB.out) HC.out hb40).mono ?_
      rintro e W4 ⟨v1, rfl, hr, hb⟩
      have HB4 := Aside0.mk (below_step HB.out hb)
      have BK4 := Aside0.mk (blk_below BK.out hb)
      have hgb3 : gb < w3.heap.size := blk_lt BK.out
      have HZ3 := Aside0.mk HB.out.size
      have hz34 : w3.heap.size ≤ W4.heap.size := hb.size
      clear hb hb40 hc0 hc1 hc2 HB BK
      obtain ⟨A4, c4, hv4, hlc4, hC4⟩ := Kd.R_reads hr
      subst hv4
      have HC4 := Aside0.mk hC4
      have HLC4 := Aside0.mk hlc4
      clear hC4 hlc4
      have hc0 : W4.cell? ⟨gb, 0, none⟩ = some (.int .i64 a1_0) := (blk_cell BK4.out 0).trans rfl
      have hc1 : W4.cell? ⟨gb, 1, none⟩ = some (.int .i64 a1_1) := (blk_cell BK4.out 1).trans rfl
      have HR4 := Aside0.mk hr
      clear hr
      go_wp2_with (fail)
      refine (HBS.out _ _ _ HC4.out HLC4.out).mono ?_
      rintro e W5 ⟨rfl, hb⟩
      have HB5 := Aside0.mk (below_step HB4.out hb)
      have BK5 := Aside0.mk (blk_below BK4.out hb)
      have HR5 := Aside0.mk (Kd.R_below HR4.out hb)
      have hz45 : W4.heap.size ≤ W5.heap.size := hb.size
      clear hb hc0 hc1 HC4 HLC4 HB4 BK4 HR4
      rw [HF.out]
      have hc0 : W5.cell? ⟨gb, 0, none⟩ = some (.int .i64 a1_0) := (blk_cell BK5.out 0).trans rfl
      have hc1 : W5.cell? ⟨gb, 1, none⟩ = some (.int .i64 a1_1) := (blk_cell BK5.out 1).trans rfl
      have hc2 : W5.cell? ⟨gb, 2, none⟩ = some (.int .i64 a1_2) := (blk_cell BK5.out 2).trans rfl
      have HB := HB5
      go_wp2
      go_ret2
      refine ⟨_, ?_, Kd.R_nil _ _ _ _ _, HB.out⟩
      rw [← HE2.out]
      rfl
    case pos =>
      have hkb : (a1_0 != 1) = false := bne_eq_false_iff_eq.mpr hk1
      rw [if_pos hk1] at H0
      injection H0 with H0
      injection H0 with h2 h3
      have HE1 := Aside0.mk h2
      have HE2 := Aside0.mk h3
      clear hk1 h2 h3
      have huNote := Try.underlying24
      go_enter Try.func10, Try.ntmps10
      go_wp2_with (first | ((with_reducible refine gate_dst (N := 3) rfl ?_); refine box_event ?hg (N := 3) ?hd (cs := #[.int .i64 a1_0, .int .i64 a1_1, .int .i64 a1_2]) (t := 24) ?hr ?_; (case hd => rfl); (case hg => rfl); (case hr => first | (go_simp; done) | (go_simp; rfl)); intro gb hg w1 hbox hb; have HB := Aside0.mk (below_step HB0.out hb); have BK := Aside0.mk hbox; have GW : w.heap.size ≤ gb := (by rw [hg]; exact Nat.le_refl _); clear hb hbox hg; have hc0 : w1.cell? ⟨gb, 0, none⟩ = some (.int .i64 a1_0) := (blk_cell BK.out 0).trans rfl; have hc1 : w1.cell? ⟨gb, 1, none⟩ = some (.int .i64 a1_1) := (blk_cell BK.out 1).trans rfl; have hc2 : w1.cell? ⟨gb, 2, none⟩ = some (.int .i64 a1_2) := (blk_cell BK.out 2).trans rfl) | (go_at_call 23; fail))
      refine (txn_Check.calls a1_0 a1_1 a1_2 _ _ AC.out).mono ?_
      rintro e w2 ⟨rfl, hb⟩
      have HBn := Aside0.mk (below_step HB.out hb)
      have BKn := Aside0.mk (blk_below BK.out hb)
      clear hb hc0 hc1 hc2 HB BK
      have HB := HBn
      have BK := BKn
      clear HBn BKn
      have hc0 : w2.cell? ⟨gb, 0, none⟩ = some (.int .i64 a1_0) := (blk_cell BK.out 0).trans rfl
      have hc1 : w2.cell? ⟨gb, 1, none⟩ = some (.int .i64 a1_1) := (blk_cell BK.out 1).trans rfl
      have hc2 : w2.cell? ⟨gb, 2, none⟩ = some (.int .i64 a1_2) := (blk_cell BK.out 2).trans rfl
      go_wp2_with (go_at_call 24; fail)
      refine (txn_right.calls _ _ l0 _ _ (Kd.C_below HR.out HB.out) HC.out AR.out).mono ?_
      rintro e w3 ⟨rfl, hb⟩
      have HBn := Aside0.mk (below_step HB.out hb)
      have BKn := Aside0.mk (blk_below BK.out hb)
      clear hb hc0 hc1 hc2 HB BK
      have HB := HBn
      have BK := BKn
      clear HBn BKn
      have hc0 : w3.cell? ⟨gb, 0, none⟩ = some (.int .i64 a1_0) := (blk_cell BK.out 0).trans rfl
      have hc1 : w3.cell? ⟨gb, 1, none⟩ = some (.int .i64 a1_1) := (blk_cell BK.out 1).trans rfl
      have hc2 : w3.cell? ⟨gb, 2, none⟩ = some (.int .i64 a1_2) := (blk_cell BK.out 2).trans rfl
      have hb40 : l0.length * 40 ≤ 140737488355328 := by omega
      go_wp2_with (fail)
      refine (clone27 _ _ l0 _ (Kd.C_below HR.out HB.out) HC.out hb40).mono ?_
      rintro e W4 ⟨v1, rfl, hr, hb⟩
      have HB4 := Aside0.mk (below_step HB.out hb)
      have BK4 := Aside0.mk (blk_below BK.out hb)
      have hgb3 : gb < w3.heap.size := blk_lt BK.out
      have HZ3 := Aside0.mk HB.out.size
      have hz34 : w3.heap.size ≤ W4.heap.size := hb.size
      clear hb hb40 hc0 hc1 hc2 HB BK
      obtain ⟨A4, c4, hv4, hlc4, hC4⟩ := Kd.R_reads hr
      subst hv4
      have HC4 := Aside0.mk hC4
      have HLC4 := Aside0.mk hlc4
      clear hC4 hlc4
      have hc0 : W4.cell? ⟨gb, 0, none⟩ = some (.int .i64 a1_0) := (blk_cell BK4.out 0).trans rfl
      have hc1 : W4.cell? ⟨gb, 1, none⟩ = some (.int .i64 a1_1) := (blk_cell BK4.out 1).trans rfl
      have HR4 := Aside0.mk hr
      clear hr
      go_wp2_with (fail)
      refine (HBS.out _ _ _ HC4.out HLC4.out).mono ?_
      rintro e W5 ⟨rfl, hb⟩
      have HB5 := Aside0.mk (below_step HB4.out hb)
      have BK5 := Aside0.mk (blk_below BK4.out hb)
      have HR5 := Aside0.mk (Kd.R_below HR4.out hb)
      have hz45 : W4.heap.size ≤ W5.heap.size := hb.size
      clear hb hc0 hc1 HC4 HLC4 HB4 BK4 HR4
      rw [HF.out]
      have hc0 : W5.cell? ⟨gb, 0, none⟩ = some (.int .i64 a1_0) := (blk_cell BK5.out 0).trans rfl
      have hc1 : W5.cell? ⟨gb, 1, none⟩ = some (.int .i64 a1_1) := (blk_cell BK5.out 1).trans rfl
      have hc2 : W5.cell? ⟨gb, 2, none⟩ = some (.int .i64 a1_2) := (blk_cell BK5.out 2).trans rfl
      have HB := HB5
      have hbz : (l0.length + 1) * 40 ≤ 140737488355328 := by omega
      have hlt5 : ∀ k, (Value.slice A4 l0.length c4).ownBlock = some k → k < W5.heap.size := fun k hk => own_lt (Kd.R_own HR5.out).choose_spec k hk
      have hge5 : ∀ k, (Value.slice A4 l0.length c4).ownBlock = some k → w3.heap.size ≤ k := fun k hk => own_base (Kd.R_own HR5.out).choose_spec k hk
      have HLT := Aside0.mk hlt5
      have HGE := Aside0.mk hge5
      clear hlt5 hge5
      go_wp2_with (fail)
      refine (ins27 w3.heap.size _ l0 i ⟨a1_1, 1, 1, 0, 0⟩ _ 27 _ (Kd.R_alloc HR5.out _) (by simp; omega) hle hbz (blk_new _ _) (fun e => by have := HLT.out _ e; omega)).mono ?_
      rintro e W6 ⟨v2, rfl, hr2, hgr, _⟩
      have HB6 : Aside0 (Below w.heap.size w W6) := ⟨(below_alloc HB5.out _).grown hgr (below_alloc HB5.out (.cells #[.int .i64 a1_1, .int .i64 1, .int .i64 1, .int .i64 0, .int .i64 0] 27)).size (fun k hk => Nat.le_trans HZ3.out (HGE.out k hk))⟩
      have HR6 := Aside0.mk (Kd.R_lower hr2 HZ3.out)
      clear hr2 hgr
      go_wp2
      go_ret2
      refine ⟨v2, ?_, ?_, HB6.out⟩
      · rw [← HE2.out]; rfl
      · rw [← HE1.out]; exact HR6.out
  case pos =>
    have HF : Aside0 (decide (i < l0.length ∧ (rd_T27 l0 (i : Int)).f0 = a1_1) = true) := ⟨decide_eq_true hf⟩
    have H0 := H.out
    rw [if_pos hf] at H0
    have hil := hf.1
    clear H hf
    obtain ⟨x, hx⟩ : ∃ x, x = rd_T27 l0 (i : Int) := ⟨_, rfl⟩
    rw [← hx] at H0
    have hxe : ∀ h : i < l0.length, x = l0[i]'h := fun h => by rw [hx]; simp [rd_T27, List.getD_eq_getElem?_getD, List.getElem?_eq_getElem h]
    clear hx
    obtain ⟨f0, f1, f2, f3, f4⟩ := x
    have HX := Aside0.mk hxe
    have HIL := Aside0.mk hil
    have H := Aside0.mk H0
    have hbd := K1.out _ (List.getElem_mem hil)
    rw [← hxe hil] at hbd
    dsimp only at hbd
    obtain ⟨_, _, hb1, hb2⟩ := hbd
    clear hxe H0 hil hle
    by_cases hk1 : a1_0 = 1
    case pos =>
      have q1 : (a1_0 == 1) = true := beq_iff_eq.2 hk1
      have H0 := H.out
      rw [txn_Fold.turn, if_pos hk1] at H0
      dsimp only at H0
      clear hk1
      by_cases hs : f2 = 1
      case neg =>
        have hsb : (f2 != 1) = true := bne_iff_ne.2 hs
        rw [if_neg hs] at H0
        injection H0 with H0
        injection H0 with h2 h3
        have HE2 := Aside0.mk h3
        subst h2
        clear h3 H hs
        have huNote := Try.underlying24
        go_enter Try.func10, Try.ntmps10
        go_wp2_with (first | ((with_reducible refine gate_dst (N := 3) rfl ?_); refine box_event ?hg (N := 3) ?hd (cs := #[.int .i64 a1_0, .int .i64 a1_1, .int .i64 a1_2]) (t := 24) ?hr ?_; (case hd => rfl); (case hg => rfl); (case hr => first | (go_simp; done) | (go_simp; rfl)); intro gb hg w1 hbox hb; have HB := Aside0.mk (below_step HB0.out hb); have BK := Aside0.mk hbox; have GW : w.heap.size ≤ gb := (by rw [hg]; exact Nat.le_refl _); clear hb hbox hg; have hc0 : w1.cell? ⟨gb, 0, none⟩ = some (.int .i64 a1_0) := (blk_cell BK.out 0).trans rfl; have hc1 : w1.cell? ⟨gb, 1, none⟩ = some (.int .i64 a1_1) := (blk_cell BK.out 1).trans rfl; have hc2 : w1.cell? ⟨gb, 2, none⟩ = some (.int .i64 a1_2) := (blk_cell BK.out 2).trans rfl) | (go_at_call 23; fail))
        refine (txn_Check.calls a1_0 a1_1 a1_2 _ _ AC.out).mono ?_
        rintro e w2 ⟨rfl, hb⟩
        have HBn := Aside0.mk (below_step HB.out hb)
        have BKn := Aside0.mk (blk_below BK.out hb)
        clear hb hc0 hc1 hc2 HB BK
        have HB := HBn
        have BK := BKn
        clear HBn BKn
        have hc0 : w2.cell? ⟨gb, 0, none⟩ = some (.int .i64 a1_0) := (blk_cell BK.out 0).trans rfl
        have hc1 : w2.cell? ⟨gb, 1, none⟩ = some (.int .i64 a1_1) := (blk_cell BK.out 1).trans rfl
        have hc2 : w2.cell? ⟨gb, 2, none⟩ = some (.int .i64 a1_2) := (blk_cell BK.out 2).trans rfl
        go_wp2_with (go_at_call 24; fail)
        refine (txn_right.calls _ _ l0 _ _ (Kd.C_below HR.out HB.out) HC.out AR.out).mono ?_
        rintro e w3 ⟨rfl, hb⟩
        have HBn := Aside0.mk (below_step HB.out hb)
        have BKn := Aside0.mk (blk_below BK.out hb)
        clear hb hc0 hc1 hc2 HB BK
        have HB := HBn
        have BK := BKn
        clear HBn BKn
        have hc0 : w3.cell? ⟨gb, 0, none⟩ = some (.int .i64 a1_0) := (blk_cell BK.out 0).trans rfl
        have hc1 : w3.cell? ⟨gb, 1, none⟩ = some (.int .i64 a1_1) := (blk_cell BK.out 1).trans rfl
        have hc2 : w3.cell? ⟨gb, 2, none⟩ = some (.int .i64 a1_2) := (blk_cell BK.out 2).trans rfl
        have hb40 : l0.length * 40 ≤ 140737488355328 := by omega
        go_wp2_with (fail)
        refine (clone27 _ _ l0 _ (Kd.C_below HR.out HB.out) HC.out hb40).mono ?_
        rintro e W4 ⟨v1, rfl, hr, hb⟩
        have HB4 := Aside0.mk (below_step HB.out hb)
        have BK4 := Aside0.mk (blk_below BK.out hb)
        have hgb3 : gb < w3.heap.size := blk_lt BK.out
        have HZ3 := Aside0.mk HB.out.size
        have hz34 : w3.heap.size ≤ W4.heap.size := hb.size
        clear hb hb40 hc0 hc1 hc2 HB BK
        obtain ⟨A4, c4, hv4, hlc4, hC4⟩ := Kd.R_reads hr
        subst hv4
        have HC4 := Aside0.mk hC4
        have HLC4 := Aside0.mk hlc4
        clear hC4 hlc4
        have hc0 : W4.cell? ⟨gb, 0, none⟩ = some (.int .i64 a1_0) := (blk_cell BK4.out 0).trans rfl
        have hc1 : W4.cell? ⟨gb, 1, none⟩ = some (.int .i64 a1_1) := (blk_cell BK4.out 1).trans rfl
        have HR4 := Aside0.mk hr
        clear hr
        go_wp2_with (fail)
        refine (HBS.out _ _ _ HC4.out HLC4.out).mono ?_
        rintro e W5 ⟨rfl, hb⟩
        have HB5 := Aside0.mk (below_step HB4.out hb)
        have BK5 := Aside0.mk (blk_below BK4.out hb)
        have HR5 := Aside0.mk (Kd.R_below HR4.out hb)
        have hz45 : W4.heap.size ≤ W5.heap.size := hb.size
        clear hb hc0 hc1 HC4 HLC4 HB4 BK4 HR4
        rw [HF.out]
        have hc0 : W5.cell? ⟨gb, 0, none⟩ = some (.int .i64 a1_0) := (blk_cell BK5.out 0).trans rfl
        have hc1 : W5.cell? ⟨gb, 1, none⟩ = some (.int .i64 a1_1) := (blk_cell BK5.out 1).trans rfl
        have hc2 : W5.cell? ⟨gb, 2, none⟩ = some (.int .i64 a1_2) := (blk_cell BK5.out 2).trans rfl
        have HB := HB5
        obtain ⟨g, c, cur, hv, hg1, hg2, hg3, hg4, hg5, hg6⟩ := Sl.R_open flat27 HR5.out (Nat.lt_of_le_of_lt (Nat.zero_le _) HIL.out)
        injection hv with hv1 _ hv2
        subst hv1
        subst hv2
        have HROW : Aside0 (row27 W5 g (l0.set i ⟨f0, f1, f2, f3, f4⟩) c4) := ⟨⟨cur, hg2, hg5, by rw [HX.out HIL.out, List.set_getElem_self]; exact hg6⟩⟩
        have HG1 := Aside0.mk (show w.heap.size ≤ g ∧ gb < g from ⟨Nat.le_trans HZ3.out hg1, Nat.lt_of_lt_of_le hgb3 hg1⟩)
        have HG4 := Aside0.mk (And.intro hg3 hg4)
        have hne : ¬ gb = g := Nat.ne_of_lt HG1.out.2
        have hne2 : ¬ g = gb := fun e => hne e.symm
        clear hg1 hg2 hg3 hg4 hg5 hg6
        have hix : (i : Int) < (l0.length : Int) := by have := HIL.out; omega
        have hi0 : (0 : Int) ≤ (i : Int) := by omega
        have hx1 : W5.cell? ⟨g, i * 5 + 1, none⟩ = some (.int .i64 f1) := row_cell27 HROW.out HIL.out 1 (by omega) _ rfl
        have hx2 : W5.cell? ⟨g, i * 5 + 2, none⟩ = some (.int .i64 f2) := row_cell27 HROW.out HIL.out 2 (by omega) _ rfl
        have hx3 : W5.cell? ⟨g, i * 5 + 3, none⟩ = some (.int .i64 f3) := row_cell27 HROW.out HIL.out 3 (by omega) _ rfl
        have hx4 : W5.cell? ⟨g, i * 5 + 4, none⟩ = some (.int .i64 f4) := row_cell27 HROW.out HIL.out 4 (by omega) _ rfl
        have hf1 : W5.frozen? ⟨g, i * 5 + 1, none⟩ = false := row_frozen27 HROW.out _
        have hf2 : W5.frozen? ⟨g, i * 5 + 2, none⟩ = false := row_frozen27 HROW.out _
        have hf3 : W5.frozen? ⟨g, i * 5 + 3, none⟩ = false := row_frozen27 HROW.out _
        have hf4 : W5.frozen? ⟨g, i * 5 + 4, none⟩ = false := row_frozen27 HROW.out _
        go_wp2
        go_ret2
        refine ⟨_, ?_, Kd.R_nil _ _ _ _ _, HB.out⟩
        rw [← HE2.out]
        rfl
      case pos =>
        have hsb : (f2 != 1) = false := bne_eq_false_iff_eq.2 hs
        rw [if_pos hs] at H0
        dsimp only at H0
        clear hs
        by_cases hm : f1 + 1 > 1099511627776
        case pos =>
          have hmb : decide (1099511627776 < f1 + 1) = true := decide_eq_true hm
          rw [if_pos hm] at H0
          clear hm
          injection H0 with H0
          injection H0 with h2 h3
          have HE1 := Aside0.mk h2
          have HE2 := Aside0.mk h3
          clear h2 h3 H
          have huNote := Try.underlying24
          go_enter Try.func10, Try.ntmps10
          go_wp2_with (first | ((with_reducible refine gate_dst (N := 3) rfl ?_); refine box_event ?hg (N := 3) ?hd (cs := #[.int .i64 a1_0, .int .i64 a1_1, .int .i64 a1_2]) (t := 24) ?hr ?_; (case hd => rfl); (case hg => rfl); (case hr => first | (go_simp; done) | (go_simp; rfl)); intro gb hg w1 hbox hb; have HB := Aside0.mk (below_step HB0.out hb); have BK := Aside0.mk hbox; have GW : w.heap.size ≤ gb := (by rw [hg]; exact Nat.le_refl _); clear hb hbox hg; have hc0 : w1.cell? ⟨gb, 0, none⟩ = some (.int .i64 a1_0) := (blk_cell BK.out 0).trans rfl; have hc1 : w1.cell? ⟨gb, 1, none⟩ = some (.int .i64 a1_1) := (blk_cell BK.out 1).trans rfl; have hc2 : w1.cell? ⟨gb, 2, none⟩ = some (.int .i64 a1_2) := (blk_cell BK.out 2).trans rfl) | (go_at_call 23; fail))
          refine (txn_Check.calls a1_0 a1_1 a1_2 _ _ AC.out).mono ?_
          rintro e w2 ⟨rfl, hb⟩
          have HBn := Aside0.mk (below_step HB.out hb)
          have BKn := Aside0.mk (blk_below BK.out hb)
          clear hb hc0 hc1 hc2 HB BK
          have HB := HBn
          have BK := BKn
          clear HBn BKn
          have hc0 : w2.cell? ⟨gb, 0, none⟩ = some (.int .i64 a1_0) := (blk_cell BK.out 0).trans rfl
          have hc1 : w2.cell? ⟨gb, 1, none⟩ = some (.int .i64 a1_1) := (blk_cell BK.out 1).trans rfl
          have hc2 : w2.cell? ⟨gb, 2, none⟩ = some (.int .i64 a1_2) := (blk_cell BK.out 2).trans rfl
          go_wp2_with (go_at_call 24; fail)
          refine (txn_right.calls _ _ l0 _ _ (Kd.C_below HR.out HB.out) HC.out AR.out).mono ?_
          rintro e w3 ⟨rfl, hb⟩
          have HBn := Aside0.mk (below_step HB.out hb)
          have BKn := Aside0.mk (blk_below BK.out hb)
          clear hb hc0 hc1 hc2 HB BK
          have HB := HBn
          have BK := BKn
          clear HBn BKn
          have hc0 : w3.cell? ⟨gb, 0, none⟩ = some (.int .i64 a1_0) := (blk_cell BK.out 0).trans rfl
          have hc1 : w3.cell? ⟨gb, 1, none⟩ = some (.int .i64 a1_1) := (blk_cell BK.out 1).trans rfl
          have hc2 : w3.cell? ⟨gb, 2, none⟩ = some (.int .i64 a1_2) := (blk_cell BK.out 2).trans rfl
          have hb40 : l0.length * 40 ≤ 140737488355328 := by omega
          go_wp2_with (fail)
          refine (clone27 _ _ l0 _ (Kd.C_below HR.out HB.out) HC.out hb40).mono ?_
          rintro e W4 ⟨v1, rfl, hr, hb⟩
          have HB4 := Aside0.mk (below_step HB.out hb)
          have BK4 := Aside0.mk (blk_below BK.out hb)
          have hgb3 : gb < w3.heap.size := blk_lt BK.out
          have HZ3 := Aside0.mk HB.out.size
          have hz34 : w3.heap.size ≤ W4.heap.size := hb.size
          clear hb hb40 hc0 hc1 hc2 HB BK
          obtain ⟨A4, c4, hv4, hlc4, hC4⟩ := Kd.R_reads hr
          subst hv4
          have HC4 := Aside0.mk hC4
          have HLC4 := Aside0.mk hlc4
          clear hC4 hlc4
          have hc0 : W4.cell? ⟨gb, 0, none⟩ = some (.int .i64 a1_0) := (blk_cell BK4.out 0).trans rfl
          have hc1 : W4.cell? ⟨gb, 1, none⟩ = some (.int .i64 a1_1) := (blk_cell BK4.out 1).trans rfl
          have HR4 := Aside0.mk hr
          clear hr
          go_wp2_with (fail)
          refine (HBS.out _ _ _ HC4.out HLC4.out).mono ?_
          rintro e W5 ⟨rfl, hb⟩
          have HB5 := Aside0.mk (below_step HB4.out hb)
          have BK5 := Aside0.mk (blk_below BK4.out hb)
          have HR5 := Aside0.mk (Kd.R_below HR4.out hb)
          have hz45 : W4.heap.size ≤ W5.heap.size := hb.size
          clear hb hc0 hc1 HC4 HLC4 HB4 BK4 HR4
          rw [HF.out]
          have hc0 : W5.cell? ⟨gb, 0, none⟩ = some (.int .i64 a1_0) := (blk_cell BK5.out 0).trans rfl
          have hc1 : W5.cell? ⟨gb, 1, none⟩ = some (.int .i64 a1_1) := (blk_cell BK5.out 1).trans rfl
          have hc2 : W5.cell? ⟨gb, 2, none⟩ = some (.int .i64 a1_2) := (blk_cell BK5.out 2).trans rfl
          have HB := HB5
          obtain ⟨g, c, cur, hv, hg1, hg2, hg3, hg4, hg5, hg6⟩ := Sl.R_open flat27 HR5.out (Nat.lt_of_le_of_lt (Nat.zero_le _) HIL.out)
          injection hv with hv1 _ hv2
          subst hv1
          subst hv2
          have HROW : Aside0 (row27 W5 g (l0.set i ⟨f0, f1, f2, f3, f4⟩) c4) := ⟨⟨cur, hg2, hg5, by rw [HX.out HIL.out, List.set_getElem_self]; exact hg6⟩⟩
          have HG1 := Aside0.mk (show w.heap.size ≤ g ∧ gb < g from ⟨Nat.le_trans HZ3.out hg1, Nat.lt_of_lt_of_le hgb3 hg1⟩)
          have HG4 := Aside0.mk (And.intro hg3 hg4)
          have hne : ¬ gb = g := Nat.ne_of_lt HG1.out.2
          have hne2 : ¬ g = gb := fun e => hne e.symm
          clear hg1 hg2 hg3 hg4 hg5 hg6
          have hix : (i : Int) < (l0.length : Int) := by have := HIL.out; omega
          have hi0 : (0 : Int) ≤ (i : Int) := by omega
          have hx1 : W5.cell? ⟨g, i * 5 + 1, none⟩ = some (.int .i64 f1) := row_cell27 HROW.out HIL.out 1 (by omega) _ rfl
          have hx2 : W5.cell? ⟨g, i * 5 + 2, none⟩ = some (.int .i64 f2) := row_cell27 HROW.out HIL.out 2 (by omega) _ rfl
          have hx3 : W5.cell? ⟨g, i * 5 + 3, none⟩ = some (.int .i64 f3) := row_cell27 HROW.out HIL.out 3 (by omega) _ rfl
          have hx4 : W5.cell? ⟨g, i * 5 + 4, none⟩ = some (.int .i64 f4) := row_cell27 HROW.out HIL.out 4 (by omega) _ rfl
          have hf1 : W5.frozen? ⟨g, i * 5 + 1, none⟩ = false := row_frozen27 HROW.out _
          have hf2 : W5.frozen? ⟨g, i * 5 + 2, none⟩ = false := row_frozen27 HROW.out _
          have hf3 : W5.frozen? ⟨g, i * 5 + 3, none⟩ = false := row_frozen27 HROW.out _
          have hf4 : W5.frozen? ⟨g, i * 5 + 4, none⟩ = false := row_frozen27 HROW.out _
          go_wp2
          go_ret2
          exact ⟨_, by rw [← HE2.out]; rfl, by rw [← HE1.out]; exact Kd.R_nil _ _ _ _ _, below_set (below_set (below_set HB5.out HG1.out.1) HG1.out.1) HG1.out.1⟩
        case neg =>
          have hmb : decide (1099511627776 < f1 + 1) = false := decide_eq_false hm
          rw [if_neg hm] at H0
          clear hm
          injection H0 with H0
          injection H0 with h2 h3
          have HE1 := Aside0.mk h2
          have HE2 := Aside0.mk h3
          clear h2 h3 H
          have huNote := Try.underlying24
          go_enter Try.func10, Try.ntmps10
          go_wp2_with (first | ((with_reducible refine gate_dst (N := 3) rfl ?_); refine box_event ?hg (N := 3) ?hd (cs := #[.int .i64 a1_0, .int .i64 a1_1, .int .i64 a1_2]) (t := 24) ?hr ?_; (case hd => rfl); (case hg => rfl); (case hr => first | (go_simp; done) | (go_simp; rfl)); intro gb hg w1 hbox hb; have HB := Aside0.mk (below_step HB0.out hb); have BK := Aside0.mk hbox; have GW : w.heap.size ≤ gb := (by rw [hg]; exact Nat.le_refl _); clear hb hbox hg; have hc0 : w1.cell? ⟨gb, 0, none⟩ = some (.int .i64 a1_0) := (blk_cell BK.out 0).trans rfl; have hc1 : w1.cell? ⟨gb, 1, none⟩ = some (.int .i64 a1_1) := (blk_cell BK.out 1).trans rfl; have hc2 : w1.cell? ⟨gb, 2, none⟩ = some (.int .i64 a1_2) := (blk_cell BK.out 2).trans rfl) | (go_at_call 23; fail))
          refine (txn_Check.calls a1_0 a1_1 a1_2 _ _ AC.out).mono ?_
          rintro e w2 ⟨rfl, hb⟩
          have HBn := Aside0.mk (below_step HB.out hb)
          have BKn := Aside0.mk (blk_below BK.out hb)
          clear hb hc0 hc1 hc2 HB BK
          have HB := HBn
          have BK := BKn
          clear HBn BKn
          have hc0 : w2.cell? ⟨gb, 0, none⟩ = some (.int .i64 a1_0) := (blk_cell BK.out 0).trans rfl
          have hc1 : w2.cell? ⟨gb, 1, none⟩ = some (.int .i64 a1_1) := (blk_cell BK.out 1).trans rfl
          have hc2 : w2.cell? ⟨gb, 2, none⟩ = some (.int .i64 a1_2) := (blk_cell BK.out 2).trans rfl
          go_wp2_with (go_at_call 24; fail)
          refine (txn_right.calls _ _ l0 _ _ (Kd.C_below HR.out HB.out) HC.out AR.out).mono ?_
          rintro e w3 ⟨rfl, hb⟩
          have HBn := Aside0.mk (below_step HB.out hb)
          have BKn := Aside0.mk (blk_below BK.out hb)
          clear hb hc0 hc1 hc2 HB BK
          have HB := HBn
          have BK := BKn
          clear HBn BKn
          have hc0 : w3.cell? ⟨gb, 0, none⟩ = some (.int .i64 a1_0) := (blk_cell BK.out 0).trans rfl
          have hc1 : w3.cell? ⟨gb, 1, none⟩ = some (.int .i64 a1_1) := (blk_cell BK.out 1).trans rfl
          have hc2 : w3.cell? ⟨gb, 2, none⟩ = some (.int .i64 a1_2) := (blk_cell BK.out 2).trans rfl
          have hb40 : l0.length * 40 ≤ 140737488355328 := by omega
          go_wp2_with (fail)
          refine (clone27 _ _ l0 _ (Kd.C_below HR.out HB.out) HC.out hb40).mono ?_
          rintro e W4 ⟨v1, rfl, hr, hb⟩
          have HB4 := Aside0.mk (below_step HB.out hb)
          have BK4 := Aside0.mk (blk_below BK.out hb)
          have hgb3 : gb < w3.heap.size := blk_lt BK.out
          have HZ3 := Aside0.mk HB.out.size
          have hz34 : w3.heap.size ≤ W4.heap.size := hb.size
          clear hb hb40 hc0 hc1 hc2 HB BK
          obtain ⟨A4, c4, hv4, hlc4, hC4⟩ := Kd.R_reads hr
          subst hv4
          have HC4 := Aside0.mk hC4
          have HLC4 := Aside0.mk hlc4
          clear hC4 hlc4
          have hc0 : W4.cell? ⟨gb, 0, none⟩ = some (.int .i64 a1_0) := (blk_cell BK4.out 0).trans rfl
          have hc1 : W4.cell? ⟨gb, 1, none⟩ = some (.int .i64 a1_1) := (blk_cell BK4.out 1).trans rfl
          have HR4 := Aside0.mk hr
          clear hr
          go_wp2_with (fail)
          refine (HBS.out _ _ _ HC4.out HLC4.out).mono ?_
          rintro e W5 ⟨rfl, hb⟩
          have HB5 := Aside0.mk (below_step HB4.out hb)
          have BK5 := Aside0.mk (blk_below BK4.out hb)
          have HR5 := Aside0.mk (Kd.R_below HR4.out hb)
          have hz45 : W4.heap.size ≤ W5.heap.size := hb.size
          clear hb hc0 hc1 HC4 HLC4 HB4 BK4 HR4
          rw [HF.out]
          have hc0 : W5.cell? ⟨gb, 0, none⟩ = some (.int .i64 a1_0) := (blk_cell BK5.out 0).trans rfl
          have hc1 : W5.cell? ⟨gb, 1, none⟩ = some (.int .i64 a1_1) := (blk_cell BK5.out 1).trans rfl
          have hc2 : W5.cell? ⟨gb, 2, none⟩ = some (.int .i64 a1_2) := (blk_cell BK5.out 2).trans rfl
          have HB := HB5
          obtain ⟨g, c, cur, hv, hg1, hg2, hg3, hg4, hg5, hg6⟩ := Sl.R_open flat27 HR5.out (Nat.lt_of_le_of_lt (Nat.zero_le _) HIL.out)
          injection hv with hv1 _ hv2
          subst hv1
          subst hv2
          have HROW : Aside0 (row27 W5 g (l0.set i ⟨f0, f1, f2, f3, f4⟩) c4) := ⟨⟨cur, hg2, hg5, by rw [HX.out HIL.out, List.set_getElem_self]; exact hg6⟩⟩
          have HG1 := Aside0.mk (show w.heap.size ≤ g ∧ gb < g from ⟨Nat.le_trans HZ3.out hg1, Nat.lt_of_lt_of_le hgb3 hg1⟩)
          have HG4 := Aside0.mk (And.intro hg3 hg4)
          have hne : ¬ gb = g := Nat.ne_of_lt HG1.out.2
          have hne2 : ¬ g = gb := fun e => hne e.symm
          clear hg1 hg2 hg3 hg4 hg5 hg6
          have hix : (i : Int) < (l0.length : Int) := by have := HIL.out; omega
          have hi0 : (0 : Int) ≤ (i : Int) := by omega
          have hx1 : W5.cell? ⟨g, i * 5 + 1, none⟩ = some (.int .i64 f1) := row_cell27 HROW.out HIL.out 1 (by omega) _ rfl
          have hx2 : W5.cell? ⟨g, i * 5 + 2, none⟩ = some (.int .i64 f2) := row_cell27 HROW.out HIL.out 2 (by omega) _ rfl
          have hx3 : W5.cell? ⟨g, i * 5 + 3, none⟩ = some (.int .i64 f3) := row_cell27 HROW.out HIL.out 3 (by omega) _ rfl
          have hx4 : W5.cell? ⟨g, i * 5 + 4, none⟩ = some (.int .i64 f4) := row_cell27 HROW.out HIL.out 4 (by omega) _ rfl
          have hf1 : W5.frozen? ⟨g, i * 5 + 1, none⟩ = false := row_frozen27 HROW.out _
          have hf2 : W5.frozen? ⟨g, i * 5 + 2, none⟩ = false := row_frozen27 HROW.out _
          have hf3 : W5.frozen? ⟨g, i * 5 + 3, none⟩ = false := row_frozen27 HROW.out _
          have hf4 : W5.frozen? ⟨g, i * 5 + 4, none⟩ = false := row_frozen27 HROW.out _
          go_wp2
          go_ret2
          have hr1 := row_set27 HROW.out HIL.out 1 (by omega) (.int .i64 (f1 + 1)) ⟨f0, f1 + 1, f2, f3, f4⟩ rfl
          have hr2 := row_set27 hr1 HIL.out 3 (by omega) (.int .i64 0) ⟨f0, f1 + 1, f2, 0, f4⟩ rfl
          have hr3 := row_set27 hr2 HIL.out 4 (by omega) (.int .i64 0) ⟨f0, f1 + 1, f2, 0, 0⟩ rfl
          have hfin := row_R27 hr3 HG1.out.1 (by rw [List.length_set]; exact HG4.out.1) HG4.out.2
          rw [List.length_set] at hfin
          exact ⟨.slice (some ⟨g, 0, none⟩) l0.length c4, by rw [← HE2.out]; rfl, by rw [← HE1.out]; exact hfin, below_set (below_set (below_set HB5.out HG1.out.1) HG1.out.1) HG1.out.1⟩
    have q1 : (a1_0 == 1) = false := beq_eq_false_iff_ne.2 hk1
    have hmb : decide (1099511627776 < f1) = false := decide_eq_false (by omega)
    by_cases hk2 : a1_0 = 2
    case pos =>
      have q2 : (a1_0 == 2) = true := beq_iff_eq.2 hk2
      have H0 := H.out
      rw [txn_Fold.turn, if_neg hk1, if_pos hk2] at H0
      dsimp only at H0
      clear hk1 hk2
      by_cases hs : f2 = 1 ∨ f2 = 2
      case neg =>
        have hsb : (f2 != 1) = true := bne_iff_ne.2 (fun h => hs (.inl h))
        have hsc : (f2 != 2) = true := bne_iff_ne.2 (fun h => hs (.inr h))
        rw [if_neg hs] at H0
        injection H0 with H0
        injection H0 with h2 h3
        have HE2 := Aside0.mk h3
        subst h2
        clear h3 H hs
        have huNote := Try.underlying24
        go_enter Try.func10, Try.ntmps10
        go_wp2_with (first | ((with_reducible refine gate_dst (N := 3) rfl ?_); refine box_event ?hg (N := 3) ?hd (cs := #[.int .i64 a1_0, .int .i64 a1_1, .int .i64 a1_2]) (t := 24) ?hr ?_; (case hd => rfl); (case hg => rfl); (case hr => first | (go_simp; done) | (go_simp; rfl)); intro gb hg w1 hbox hb; have HB := Aside0.mk (below_step HB0.out hb); have BK := Aside0.mk hbox; have GW : w.heap.size ≤ gb := (by rw [hg]; exact Nat.le_refl _); clear hb hbox hg; have hc0 : w1.cell? ⟨gb, 0, none⟩ = some (.int .i64 a1_0) := (blk_cell BK.out 0).trans rfl; have hc1 : w1.cell? ⟨gb, 1, none⟩ = some (.int .i64 a1_1) := (blk_cell BK.out 1).trans rfl; have hc2 : w1.cell? ⟨gb, 2, none⟩ = some (.int .i64 a1_2) := (blk_cell BK.out 2).trans rfl) | (go_at_call 23; fail))
        refine (txn_Check.calls a1_0 a1_1 a1_2 _ _ AC.out).mono ?_
        rintro e w2 ⟨rfl, hb⟩
        have HBn := Aside0.mk (below_step HB.out hb)
        have BKn := Aside0.mk (blk_below BK.out hb)
        clear hb hc0 hc1 hc2 HB BK
        have HB := HBn
        have BK := BKn
        clear HBn BKn
        have hc0 : w2.cell? ⟨gb, 0, none⟩ = some (.int .i64 a1_0) := (blk_cell BK.out 0).trans rfl
        have hc1 : w2.cell? ⟨gb, 1, none⟩ = some (.int .i64 a1_1) := (blk_cell BK.out 1).trans rfl
        have hc2 : w2.cell? ⟨gb, 2, none⟩ = some (.int .i64 a1_2) := (blk_cell BK.out 2).trans rfl
        go_wp2_with (go_at_call 24; fail)
        refine (txn_right.calls _ _ l0 _ _ (Kd.C_below HR.out HB.out) HC.out AR.out).mono ?_
        rintro e w3 ⟨rfl, hb⟩
        have HBn := Aside0.mk (below_step HB.out hb)
        have BKn := Aside0.mk (blk_below BK.out hb)
        clear hb hc0 hc1 hc2 HB BK
        have HB := HBn
        have BK := BKn
        clear HBn BKn
        have hc0 : w3.cell? ⟨gb, 0, none⟩ = some (.int .i64 a1_0) := (blk_cell BK.out 0).trans rfl
        have hc1 : w3.cell? ⟨gb, 1, none⟩ = some (.int .i64 a1_1) := (blk_cell BK.out 1).trans rfl
        have hc2 : w3.cell? ⟨gb, 2, none⟩ = some (.int .i64 a1_2) := (blk_cell BK.out 2).trans rfl
        have hb40 : l0.length * 40 ≤ 140737488355328 := by omega
        go_wp2_with (fail)
        refine (clone27 _ _ l0 _ (Kd.C_below HR.out HB.out) HC.out hb40).mono ?_
        rintro e W4 ⟨v1, rfl, hr, hb⟩
        have HB4 := Aside0.mk (below_step HB.out hb)
        have BK4 := Aside0.mk (blk_below BK.out hb)
        have hgb3 : gb < w3.heap.size := blk_lt BK.out
        have HZ3 := Aside0.mk HB.out.size
        have hz34 : w3.heap.size ≤ W4.heap.size := hb.size
        clear hb hb40 hc0 hc1 hc2 HB BK
        obtain ⟨A4, c4, hv4, hlc4, hC4⟩ := Kd.R_reads hr
        subst hv4
        have HC4 := Aside0.mk hC4
        have HLC4 := Aside0.mk hlc4
        clear hC4 hlc4
        have hc0 : W4.cell? ⟨gb, 0, none⟩ = some (.int .i64 a1_0) := (blk_cell BK4.out 0).trans rfl
        have hc1 : W4.cell? ⟨gb, 1, none⟩ = some (.int .i64 a1_1) := (blk_cell BK4.out 1).trans rfl
        have HR4 := Aside0.mk hr
        clear hr
        go_wp2_with (fail)
        refine (HBS.out _ _ _ HC4.out HLC4.out).mono ?_
        rintro e W5 ⟨rfl, hb⟩
        have HB5 := Aside0.mk (below_step HB4.out hb)
        have BK5 := Aside0.mk (blk_below BK4.out hb)
        have HR5 := Aside0.mk (Kd.R_below HR4.out hb)
        have hz45 : W4.heap.size ≤ W5.heap.size := hb.size
        clear hb hc0 hc1 HC4 HLC4 HB4 BK4 HR4
        rw [HF.out]
        have hc0 : W5.cell? ⟨gb, 0, none⟩ = some (.int .i64 a1_0) := (blk_cell BK5.out 0).trans rfl
        have hc1 : W5.cell? ⟨gb, 1, none⟩ = some (.int .i64 a1_1) := (blk_cell BK5.out 1).trans rfl
        have hc2 : W5.cell? ⟨gb, 2, none⟩ = some (.int .i64 a1_2) := (blk_cell BK5.out 2).trans rfl
        have HB := HB5
        obtain ⟨g, c, cur, hv, hg1, hg2, hg3, hg4, hg5, hg6⟩ := Sl.R_open flat27 HR5.out (Nat.lt_of_le_of_lt (Nat.zero_le _) HIL.out)
        injection hv with hv1 _ hv2
        subst hv1
        subst hv2
        have HROW : Aside0 (row27 W5 g (l0.set i ⟨f0, f1, f2, f3, f4⟩) c4) := ⟨⟨cur, hg2, hg5, by rw [HX.out HIL.out, List.set_getElem_self]; exact hg6⟩⟩
        have HG1 := Aside0.mk (show w.heap.size ≤ g ∧ gb < g from ⟨Nat.le_trans HZ3.out hg1, Nat.lt_of_lt_of_le hgb3 hg1⟩)
        have HG4 := Aside0.mk (And.intro hg3 hg4)
        have hne : ¬ gb = g := Nat.ne_of_lt HG1.out.2
        have hne2 : ¬ g = gb := fun e => hne e.symm
        clear hg1 hg2 hg3 hg4 hg5 hg6
        have hix : (i : Int) < (l0.length : Int) := by have := HIL.out; omega
        have hi0 : (0 : Int) ≤ (i : Int) := by omega
        have hx1 : W5.cell? ⟨g, i * 5 + 1, none⟩ = some (.int .i64 f1) := row_cell27 HROW.out HIL.out 1 (by omega) _ rfl
        have hx2 : W5.cell? ⟨g, i * 5 + 2, none⟩ = some (.int .i64 f2) := row_cell27 HROW.out HIL.out 2 (by omega) _ rfl
        have hx3 : W5.cell? ⟨g, i * 5 + 3, none⟩ = some (.int .i64 f3) := row_cell27 HROW.out HIL.out 3 (by omega) _ rfl
        have hx4 : W5.cell? ⟨g, i * 5 + 4, none⟩ = some (.int .i64 f4) := row_cell27 HROW.out HIL.out 4 (by omega) _ rfl
        have hf1 : W5.frozen? ⟨g, i * 5 + 1, none⟩ = false := row_frozen27 HROW.out _
        have hf2 : W5.frozen? ⟨g, i * 5 + 2, none⟩ = false := row_frozen27 HROW.out _
        have hf3 : W5.frozen? ⟨g, i * 5 + 3, none⟩ = false := row_frozen27 HROW.out _
        have hf4 : W5.frozen? ⟨g, i * 5 + 4, none⟩ = false := row_frozen27 HROW.out _
        go_wp2
        go_ret2
        refine ⟨_, ?_, Kd.R_nil _ _ _ _ _, HB.out⟩
        rw [← HE2.out]
        rfl
      case pos =>
        rw [if_pos hs] at H0
        dsimp only at H0
        rw [if_neg (by omega)] at H0
        by_cases hs1 : f2 = 1
        case pos =>
          have hsb : (f2 != 1) = false := bne_eq_false_iff_eq.2 hs1
          clear hs hs1
          injection H0 with H0
          injection H0 with h2 h3
          have HE1 := Aside0.mk h2
          have HE2 := Aside0.mk h3
          clear h2 h3 H
          have huNote := Try.underlying24
          go_enter Try.func10, Try.ntmps10
          go_wp2_with (first | ((with_reducible refine gate_dst (N := 3) rfl ?_); refine box_event ?hg (N := 3) ?hd (cs := #[.int .i64 a1_0, .int .i64 a1_1, .int .i64 a1_2]) (t := 24) ?hr ?_; (case hd => rfl); (case hg => rfl); (case hr => first | (go_simp; done) | (go_simp; rfl)); intro gb hg w1 hbox hb; have HB := Aside0.mk (below_step HB0.out hb); have BK := Aside0.mk hbox; have GW : w.heap.size ≤ gb := (by rw [hg]; exact Nat.le_refl _); clear hb hbox hg; have hc0 : w1.cell? ⟨gb, 0, none⟩ = some (.int .i64 a1_0) := (blk_cell BK.out 0).trans rfl; have hc1 : w1.cell? ⟨gb, 1, none⟩ = some (.int .i64 a1_1) := (blk_cell BK.out 1).trans rfl; have hc2 : w1.cell? ⟨gb, 2, none⟩ = some (.int .i64 a1_2) := (blk_cell BK.out 2).trans rfl) | (go_at_call 23; fail))
          refine (txn_Check.calls a1_0 a1_1 a1_2 _ _ AC.out).mono ?_
          rintro e w2 ⟨rfl, hb⟩
          have HBn := Aside0.mk (below_step HB.out hb)
          have BKn := Aside0.mk (blk_below BK.out hb)
          clear hb hc0 hc1 hc2 HB BK
          have HB := HBn
          have BK := BKn
          clear HBn BKn
          have hc0 : w2.cell? ⟨gb, 0, none⟩ = some (.int .i64 a1_0) := (blk_cell BK.out 0).trans rfl
          have hc1 : w2.cell? ⟨gb, 1, none⟩ = some (.int .i64 a1_1) := (blk_cell BK.out 1).trans rfl
          have hc2 : w2.cell? ⟨gb, 2, none⟩ = some (.int .i64 a1_2) := (blk_cell BK.out 2).trans rfl
          go_wp2_with (go_at_call 24; fail)
          refine (txn_right.calls _ _ l0 _ _ (Kd.C_below HR.out HB.out) HC.out AR.out).mono ?_
          rintro e w3 ⟨rfl, hb⟩
          have HBn := Aside0.mk (below_step HB.out hb)
          have BKn := Aside0.mk (blk_below BK.out hb)
          clear hb hc0 hc1 hc2 HB BK
          have HB := HBn
          have BK := BKn
          clear HBn BKn
          have hc0 : w3.cell? ⟨gb, 0, none⟩ = some (.int .i64 a1_0) := (blk_cell BK.out 0).trans rfl
          have hc1 : w3.cell? ⟨gb, 1, none⟩ = some (.int .i64 a1_1) := (blk_cell BK.out 1).trans rfl
          have hc2 : w3.cell? ⟨gb, 2, none⟩ = some (.int .i64 a1_2) := (blk_cell BK.out 2).trans rfl
          have hb40 : l0.length * 40 ≤ 140737488355328 := by omega
          go_wp2_with (fail)
          refine (clone27 _ _ l0 _ (Kd.C_below HR.out HB.out) HC.out hb40).mono ?_
          rintro e W4 ⟨v1, rfl, hr, hb⟩
          have HB4 := Aside0.mk (below_step HB.out hb)
          have BK4 := Aside0.mk (blk_below BK.out hb)
          have hgb3 : gb < w3.heap.size := blk_lt BK.out
          have HZ3 := Aside0.mk HB.out.size
          have hz34 : w3.heap.size ≤ W4.heap.size := hb.size
          clear hb hb40 hc0 hc1 hc2 HB BK
          obtain ⟨A4, c4, hv4, hlc4, hC4⟩ := Kd.R_reads hr
          subst hv4
          have HC4 := Aside0.mk hC4
          have HLC4 := Aside0.mk hlc4
          clear hC4 hlc4
          have hc0 : W4.cell? ⟨gb, 0, none⟩ = some (.int .i64 a1_0) := (blk_cell BK4.out 0).trans rfl
          have hc1 : W4.cell? ⟨gb, 1, none⟩ = some (.int .i64 a1_1) := (blk_cell BK4.out 1).trans rfl
          have HR4 := Aside0.mk hr
          clear hr
          go_wp2_with (fail)
          refine (HBS.out _ _ _ HC4.out HLC4.out).mono ?_
          rintro e W5 ⟨rfl, hb⟩
          have HB5 := Aside0.mk (below_step HB4.out hb)
          have BK5 := Aside0.mk (blk_below BK4.out hb)
          have HR5 := Aside0.mk (Kd.R_below HR4.out hb)
          have hz45 : W4.heap.size ≤ W5.heap.size := hb.size
          clear hb hc0 hc1 HC4 HLC4 HB4 BK4 HR4
          rw [HF.out]
          have hc0 : W5.cell? ⟨gb, 0, none⟩ = some (.int .i64 a1_0) := (blk_cell BK5.out 0).trans rfl
          have hc1 : W5.cell? ⟨gb, 1, none⟩ = some (.int .i64 a1_1) := (blk_cell BK5.out 1).trans rfl
          have hc2 : W5.cell? ⟨gb, 2, none⟩ = some (.int .i64 a1_2) := (blk_cell BK5.out 2).trans rfl
          have HB := HB5
          obtain ⟨g, c, cur, hv, hg1, hg2, hg3, hg4, hg5, hg6⟩ := Sl.R_open flat27 HR5.out (Nat.lt_of_le_of_lt (Nat.zero_le _) HIL.out)
          injection hv with hv1 _ hv2
          subst hv1
          subst hv2
          have HROW : Aside0 (row27 W5 g (l0.set i ⟨f0, f1, f2, f3, f4⟩) c4) := ⟨⟨cur, hg2, hg5, by rw [HX.out HIL.out, List.set_getElem_self]; exact hg6⟩⟩
          have HG1 := Aside0.mk (show w.heap.size ≤ g ∧ gb < g from ⟨Nat.le_trans HZ3.out hg1, Nat.lt_of_lt_of_le hgb3 hg1⟩)
          have HG4 := Aside0.mk (And.intro hg3 hg4)
          have hne : ¬ gb = g := Nat.ne_of_lt HG1.out.2
          have hne2 : ¬ g = gb := fun e => hne e.symm
          clear hg1 hg2 hg3 hg4 hg5 hg6
          have hix : (i : Int) < (l0.length : Int) := by have := HIL.out; omega
          have hi0 : (0 : Int) ≤ (i : Int) := by omega
          have hx1 : W5.cell? ⟨g, i * 5 + 1, none⟩ = some (.int .i64 f1) := row_cell27 HROW.out HIL.out 1 (by omega) _ rfl
          have hx2 : W5.cell? ⟨g, i * 5 + 2, none⟩ = some (.int .i64 f2) := row_cell27 HROW.out HIL.out 2 (by omega) _ rfl
          have hx3 : W5.cell? ⟨g, i * 5 + 3, none⟩ = some (.int .i64 f3) := row_cell27 HROW.out HIL.out 3 (by omega) _ rfl
          have hx4 : W5.cell? ⟨g, i * 5 + 4, none⟩ = some (.int .i64 f4) := row_cell27 HROW.out HIL.out 4 (by omega) _ rfl
          have hf1 : W5.frozen? ⟨g, i * 5 + 1, none⟩ = false := row_frozen27 HROW.out _
          have hf2 : W5.frozen? ⟨g, i * 5 + 2, none⟩ = false := row_frozen27 HROW.out _
          have hf3 : W5.frozen? ⟨g, i * 5 + 3, none⟩ = false := row_frozen27 HROW.out _
          have hf4 : W5.frozen? ⟨g, i * 5 + 4, none⟩ = false := row_frozen27 HROW.out _
          go_wp2
          go_region
          go_wp2
          go_ret2
          have hr1 := row_set27 HROW.out HIL.out 2 (by omega) (.int .i64 2) ⟨f0, f1, 2, f3, f4⟩ rfl
          have hr2 := row_set27 hr1 HIL.out 3 (by omega) (.int .i64 (Go.bits .or .i64 f3 a1_2)) ⟨f0, f1, 2, Go.bits .or .i64 f3 a1_2, f4⟩ rfl
          have hfin := row_R27 (row_drawn27 hr2 1) HG1.out.1 (by rw [List.length_set]; exact HG4.out.1) HG4.out.2
          rw [List.length_set] at hfin
          exact ⟨.slice (some ⟨g, 0, none⟩) l0.length c4, by rw [← HE2.out]; rfl, by rw [← HE1.out]; exact hfin, below_drew (below_set (below_set HB5.out HG1.out.1) HG1.out.1)⟩
        case neg =>
          have hsb : (f2 != 1) = true := bne_iff_ne.2 hs1
          have hsc : (f2 != 2) = false := bne_eq_false_iff_eq.2 (by omega)
          clear hs hs1
          injection H0 with H0
          injection H0 with h2 h3
          have HE1 := Aside0.mk h2
          have HE2 := Aside0.mk h3
          clear h2 h3 H
          have huNote := Try.underlying24
          go_enter Try.func10, Try.ntmps10
          go_wp2_with (first | ((with_reducible refine gate_dst (N := 3) rfl ?_); refine box_event ?hg (N := 3) ?hd (cs := #[.int .i64 a1_0, .int .i64 a1_1, .int .i64 a1_2]) (t := 24) ?hr ?_; (case hd => rfl); (case hg => rfl); (case hr => first | (go_simp; done) | (go_simp; rfl)); intro gb hg w1 hbox hb; have HB := Aside0.mk (below_step HB0.out hb); have BK := Aside0.mk hbox; have GW : w.heap.size ≤ gb := (by rw [hg]; exact Nat.le_refl _); clear hb hbox hg; have hc0 : w1.cell? ⟨gb, 0, none⟩ = some (.int .i64 a1_0) := (blk_cell BK.out 0).trans rfl; have hc1 : w1.cell? ⟨gb, 1, none⟩ = some (.int .i64 a1_1) := (blk_cell BK.out 1).trans rfl; have hc2 : w1.cell? ⟨gb, 2, none⟩ = some (.int .i64 a1_2) := (blk_cell BK.out 2).trans rfl) | (go_at_call 23; fail))
          refine (txn_Check.calls a1_0 a1_1 a1_2 _ _ AC.out).mono ?_
          rintro e w2 ⟨rfl, hb⟩
          have HBn := Aside0.mk (below_step HB.out hb)
          have BKn := Aside0.mk (blk_below BK.out hb)
          clear hb hc0 hc1 hc2 HB BK
          have HB := HBn
          have BK := BKn
          clear HBn BKn
          have hc0 : w2.cell? ⟨gb, 0, none⟩ = some (.int .i64 a1_0) := (blk_cell BK.out 0).trans rfl
          have hc1 : w2.cell? ⟨gb, 1, none⟩ = some (.int .i64 a1_1) := (blk_cell BK.out 1).trans rfl
          have hc2 : w2.cell? ⟨gb, 2, none⟩ = some (.int .i64 a1_2) := (blk_cell BK.out 2).trans rfl
          go_wp2_with (go_at_call 24; fail)
          refine (txn_right.calls _ _ l0 _ _ (Kd.C_below HR.out HB.out) HC.out AR.out).mono ?_
          rintro e w3 ⟨rfl, hb⟩
          have HBn := Aside0.mk (below_step HB.out hb)
          have BKn := Aside0.mk (blk_below BK.out hb)
          clear hb hc0 hc1 hc2 HB BK
          have HB := HBn
          have BK := BKn
          clear HBn BKn
          have hc0 : w3.cell? ⟨gb, 0, none⟩ = some (.int .i64 a1_0) := (blk_cell BK.out 0).trans rfl
          have hc1 : w3.cell? ⟨gb, 1, none⟩ = some (.int .i64 a1_1) := (blk_cell BK.out 1).trans rfl
          have hc2 : w3.cell? ⟨gb, 2, none⟩ = some (.int .i64 a1_2) := (blk_cell BK.out 2).trans rfl
          have hb40 : l0.length * 40 ≤ 140737488355328 := by omega
          go_wp2_with (fail)
          refine (clone27 _ _ l0 _ (Kd.C_below HR.out HB.out) HC.out hb40).mono ?_
          rintro e W4 ⟨v1, rfl, hr, hb⟩
          have HB4 := Aside0.mk (below_step HB.out hb)
          have BK4 := Aside0.mk (blk_below BK.out hb)
          have hgb3 : gb < w3.heap.size := blk_lt BK.out
          have HZ3 := Aside0.mk HB.out.size
          have hz34 : w3.heap.size ≤ W4.heap.size := hb.size
          clear hb hb40 hc0 hc1 hc2 HB BK
          obtain ⟨A4, c4, hv4, hlc4, hC4⟩ := Kd.R_reads hr
          subst hv4
          have HC4 := Aside0.mk hC4
          have HLC4 := Aside0.mk hlc4
          clear hC4 hlc4
          have hc0 : W4.cell? ⟨gb, 0, none⟩ = some (.int .i64 a1_0) := (blk_cell BK4.out 0).trans rfl
          have hc1 : W4.cell? ⟨gb, 1, none⟩ = some (.int .i64 a1_1) := (blk_cell BK4.out 1).trans rfl
          have HR4 := Aside0.mk hr
          clear hr
          go_wp2_with (fail)
          refine (HBS.out _ _ _ HC4.out HLC4.out).mono ?_
          rintro e W5 ⟨rfl, hb⟩
          have HB5 := Aside0.mk (below_step HB4.out hb)
          have BK5 := Aside0.mk (blk_below BK4.out hb)
          have HR5 := Aside0.mk (Kd.R_below HR4.out hb)
          have hz45 : W4.heap.size ≤ W5.heap.size := hb.size
          clear hb hc0 hc1 HC4 HLC4 HB4 BK4 HR4
          rw [HF.out]
          have hc0 : W5.cell? ⟨gb, 0, none⟩ = some (.int .i64 a1_0) := (blk_cell BK5.out 0).trans rfl
          have hc1 : W5.cell? ⟨gb, 1, none⟩ = some (.int .i64 a1_1) := (blk_cell BK5.out 1).trans rfl
          have hc2 : W5.cell? ⟨gb, 2, none⟩ = some (.int .i64 a1_2) := (blk_cell BK5.out 2).trans rfl
          have HB := HB5
          obtain ⟨g, c, cur, hv, hg1, hg2, hg3, hg4, hg5, hg6⟩ := Sl.R_open flat27 HR5.out (Nat.lt_of_le_of_lt (Nat.zero_le _) HIL.out)
          injection hv with hv1 _ hv2
          subst hv1
          subst hv2
          have HROW : Aside0 (row27 W5 g (l0.set i ⟨f0, f1, f2, f3, f4⟩) c4) := ⟨⟨cur, hg2, hg5, by rw [HX.out HIL.out, List.set_getElem_self]; exact hg6⟩⟩
          have HG1 := Aside0.mk (show w.heap.size ≤ g ∧ gb < g from ⟨Nat.le_trans HZ3.out hg1, Nat.lt_of_lt_of_le hgb3 hg1⟩)
          have HG4 := Aside0.mk (And.intro hg3 hg4)
          have hne : ¬ gb = g := Nat.ne_of_lt HG1.out.2
          have hne2 : ¬ g = gb := fun e => hne e.symm
          clear hg1 hg2 hg3 hg4 hg5 hg6
          have hix : (i : Int) < (l0.length : Int) := by have := HIL.out; omega
          have hi0 : (0 : Int) ≤ (i : Int) := by omega
          have hx1 : W5.cell? ⟨g, i * 5 + 1, none⟩ = some (.int .i64 f1) := row_cell27 HROW.out HIL.out 1 (by omega) _ rfl
          have hx2 : W5.cell? ⟨g, i * 5 + 2, none⟩ = some (.int .i64 f2) := row_cell27 HROW.out HIL.out 2 (by omega) _ rfl
          have hx3 : W5.cell? ⟨g, i * 5 + 3, none⟩ = some (.int .i64 f3) := row_cell27 HROW.out HIL.out 3 (by omega) _ rfl
          have hx4 : W5.cell? ⟨g, i * 5 + 4, none⟩ = some (.int .i64 f4) := row_cell27 HROW.out HIL.out 4 (by omega) _ rfl
          have hf1 : W5.frozen? ⟨g, i * 5 + 1, none⟩ = false := row_frozen27 HROW.out _
          have hf2 : W5.frozen? ⟨g, i * 5 + 2, none⟩ = false := row_frozen27 HROW.out _
          have hf3 : W5.frozen? ⟨g, i * 5 + 3, none⟩ = false := row_frozen27 HROW.out _
          have hf4 : W5.frozen? ⟨g, i * 5 + 4, none⟩ = false := row_frozen27 HROW.out _
          go_wp2
          go_region
          go_wp2
          go_ret2
          have hr1 := row_set27 HROW.out HIL.out 2 (by omega) (.int .i64 2) ⟨f0, f1, 2, f3, f4⟩ rfl
          have hr2 := row_set27 hr1 HIL.out 3 (by omega) (.int .i64 (Go.bits .or .i64 f3 a1_2)) ⟨f0, f1, 2, Go.bits .or .i64 f3 a1_2, f4⟩ rfl
          have hfin := row_R27 (row_drawn27 hr2 1) HG1.out.1 (by rw [List.length_set]; exact HG4.out.1) HG4.out.2
          rw [List.length_set] at hfin
          exact ⟨.slice (some ⟨g, 0, none⟩) l0.length c4, by rw [← HE2.out]; rfl, by rw [← HE1.out]; exact hfin, below_drew (below_set (below_set HB5.out HG1.out.1) HG1.out.1)⟩
    have q2 : (a1_0 == 2) = false := beq_eq_false_iff_ne.2 hk2
    by_cases hk5 : a1_0 = 5
    case pos =>
      have q3 : (a1_0 == 3) = false := beq_eq_false_iff_ne.2 (by omega)
      have q4 : (a1_0 == 4) = false := beq_eq_false_iff_ne.2 (by omega)
      have q5 : (a1_0 == 5) = true := beq_iff_eq.2 hk5
      have H0 := H.out
      rw [txn_Fold.turn, if_neg hk1, if_neg hk2, if_pos hk5] at H0
      dsimp only at H0
      clear hk1 hk2 hk5
      by_cases hs : f2 = 3 ∨ f2 = 4
      case neg =>
        have hsb : (f2 != 3) = true := bne_iff_ne.2 (fun h => hs (.inl h))
        have hsc : (f2 != 4) = true := bne_iff_ne.2 (fun h => hs (.inr h))
        rw [if_neg hs] at H0
        injection H0 with H0
        injection H0 with h2 h3
        have HE2 := Aside0.mk h3
        subst h2
        clear h3 H hs
        have huNote := Try.underlying24
        go_enter Try.func10, Try.ntmps10
        go_wp2_with (first | ((with_reducible refine gate_dst (N := 3) rfl ?_); refine box_event ?hg (N := 3) ?hd (cs := #[.int .i64 a1_0, .int .i64 a1_1, .int .i64 a1_2]) (t := 24) ?hr ?_; (case hd => rfl); (case hg => rfl); (case hr => first | (go_simp; done) | (go_simp; rfl)); intro gb hg w1 hbox hb; have HB := Aside0.mk (below_step HB0.out hb); have BK := Aside0.mk hbox; have GW : w.heap.size ≤ gb := (by rw [hg]; exact Nat.le_refl _); clear hb hbox hg; have hc0 : w1.cell? ⟨gb, 0, none⟩ = some (.int .i64 a1_0) := (blk_cell BK.out 0).trans rfl; have hc1 : w1.cell? ⟨gb, 1, none⟩ = some (.int .i64 a1_1) := (blk_cell BK.out 1).trans rfl; have hc2 : w1.cell? ⟨gb, 2, none⟩ = some (.int .i64 a1_2) := (blk_cell BK.out 2).trans rfl) | (go_at_call 23; fail))
        refine (txn_Check.calls a1_0 a1_1 a1_2 _ _ AC.out).mono ?_
        rintro e w2 ⟨rfl, hb⟩
        have HBn := Aside0.mk (below_step HB.out hb)
        have BKn := Aside0.mk (blk_below BK.out hb)
        clear hb hc0 hc1 hc2 HB BK
        have HB := HBn
        have BK := BKn
        clear HBn BKn
        have hc0 : w2.cell? ⟨gb, 0, none⟩ = some (.int .i64 a1_0) := (blk_cell BK.out 0).trans rfl
        have hc1 : w2.cell? ⟨gb, 1, none⟩ = some (.int .i64 a1_1) := (blk_cell BK.out 1).trans rfl
        have hc2 : w2.cell? ⟨gb, 2, none⟩ = some (.int .i64 a1_2) := (blk_cell BK.out 2).trans rfl
        go_wp2_with (go_at_call 24; fail)
        refine (txn_right.calls _ _ l0 _ _ (Kd.C_below HR.out HB.out) HC.out AR.out).mono ?_
        rintro e w3 ⟨rfl, hb⟩
        have HBn := Aside0.mk (below_step HB.out hb)
        have BKn := Aside0.mk (blk_below BK.out hb)
        clear hb hc0 hc1 hc2 HB BK
        have HB := HBn
        have BK := BKn
        clear HBn BKn
        have hc0 : w3.cell? ⟨gb, 0, none⟩ = some (.int .i64 a1_0) := (blk_cell BK.out 0).trans rfl
        have hc1 : w3.cell? ⟨gb, 1, none⟩ = some (.int .i64 a1_1) := (blk_cell BK.out 1).trans rfl
        have hc2 : w3.cell? ⟨gb, 2, none⟩ = some (.int .i64 a1_2) := (blk_cell BK.out 2).trans rfl
        have hb40 : l0.length * 40 ≤ 140737488355328 := by omega
        go_wp2_with (fail)
        refine (clone27 _ _ l0 _ (Kd.C_below HR.out HB.out) HC.out hb40).mono ?_
        rintro e W4 ⟨v1, rfl, hr, hb⟩
        have HB4 := Aside0.mk (below_step HB.out hb)
        have BK4 := Aside0.mk (blk_below BK.out hb)
        have hgb3 : gb < w3.heap.size := blk_lt BK.out
        have HZ3 := Aside0.mk HB.out.size
        have hz34 : w3.heap.size ≤ W4.heap.size := hb.size
        clear hb hb40 hc0 hc1 hc2 HB BK
        obtain ⟨A4, c4, hv4, hlc4, hC4⟩ := Kd.R_reads hr
        subst hv4
        have HC4 := Aside0.mk hC4
        have HLC4 := Aside0.mk hlc4
        clear hC4 hlc4
        have hc0 : W4.cell? ⟨gb, 0, none⟩ = some (.int .i64 a1_0) := (blk_cell BK4.out 0).trans rfl
        have hc1 : W4.cell? ⟨gb, 1, none⟩ = some (.int .i64 a1_1) := (blk_cell BK4.out 1).trans rfl
        have HR4 := Aside0.mk hr
        clear hr
        go_wp2_with (fail)
        refine (HBS.out _ _ _ HC4.out HLC4.out).mono ?_
        rintro e W5 ⟨rfl, hb⟩
        have HB5 := Aside0.mk (below_step HB4.out hb)
        have BK5 := Aside0.mk (blk_below BK4.out hb)
        have HR5 := Aside0.mk (Kd.R_below HR4.out hb)
        have hz45 : W4.heap.size ≤ W5.heap.size := hb.size
        clear hb hc0 hc1 HC4 HLC4 HB4 BK4 HR4
        rw [HF.out]
        have hc0 : W5.cell? ⟨gb, 0, none⟩ = some (.int .i64 a1_0) := (blk_cell BK5.out 0).trans rfl
        have hc1 : W5.cell? ⟨gb, 1, none⟩ = some (.int .i64 a1_1) := (blk_cell BK5.out 1).trans rfl
        have hc2 : W5.cell? ⟨gb, 2, none⟩ = some (.int .i64 a1_2) := (blk_cell BK5.out 2).trans rfl
        have HB := HB5
        obtain ⟨g, c, cur, hv, hg1, hg2, hg3, hg4, hg5, hg6⟩ := Sl.R_open flat27 HR5.out (Nat.lt_of_le_of_lt (Nat.zero_le _) HIL.out)
        injection hv with hv1 _ hv2
        subst hv1
        subst hv2
        have HROW : Aside0 (row27 W5 g (l0.set i ⟨f0, f1, f2, f3, f4⟩) c4) := ⟨⟨cur, hg2, hg5, by rw [HX.out HIL.out, List.set_getElem_self]; exact hg6⟩⟩
        have HG1 := Aside0.mk (show w.heap.size ≤ g ∧ gb < g from ⟨Nat.le_trans HZ3.out hg1, Nat.lt_of_lt_of_le hgb3 hg1⟩)
        have HG4 := Aside0.mk (And.intro hg3 hg4)
        have hne : ¬ gb = g := Nat.ne_of_lt HG1.out.2
        have hne2 : ¬ g = gb := fun e => hne e.symm
        clear hg1 hg2 hg3 hg4 hg5 hg6
        have hix : (i : Int) < (l0.length : Int) := by have := HIL.out; omega
        have hi0 : (0 : Int) ≤ (i : Int) := by omega
        have hx1 : W5.cell? ⟨g, i * 5 + 1, none⟩ = some (.int .i64 f1) := row_cell27 HROW.out HIL.out 1 (by omega) _ rfl
        have hx2 : W5.cell? ⟨g, i * 5 + 2, none⟩ = some (.int .i64 f2) := row_cell27 HROW.out HIL.out 2 (by omega) _ rfl
        have hx3 : W5.cell? ⟨g, i * 5 + 3, none⟩ = some (.int .i64 f3) := row_cell27 HROW.out HIL.out 3 (by omega) _ rfl
        have hx4 : W5.cell? ⟨g, i * 5 + 4, none⟩ = some (.int .i64 f4) := row_cell27 HROW.out HIL.out 4 (by omega) _ rfl
        have hf1 : W5.frozen? ⟨g, i * 5 + 1, none⟩ = false := row_frozen27 HROW.out _
        have hf2 : W5.frozen? ⟨g, i * 5 + 2, none⟩ = false := row_frozen27 HROW.out _
        have hf3 : W5.frozen? ⟨g, i * 5 + 3, none⟩ = false := row_frozen27 HROW.out _
        have hf4 : W5.frozen? ⟨g, i * 5 + 4, none⟩ = false := row_frozen27 HROW.out _
        go_wp2
        go_ret2
        refine ⟨_, ?_, Kd.R_nil _ _ _ _ _, HB.out⟩
        rw [← HE2.out]
        rfl
      case pos =>
        rw [if_pos hs] at H0
        dsimp only at H0
        have hw5 : IntKind.i64.wrap (3 + f2) = 3 + f2 := by rw [IntKind.wrap_i64]; omega
        have hf2a : 3 ≤ f2 := by omega
        have hf2b : f2 ≤ 4 := by omega
        have hw6 : 3 + f2 - 3 = f2 := by omega
        by_cases hs1 : f2 = 3
        case pos =>
          have hsb : (f2 != 3) = false := bne_eq_false_iff_eq.2 hs1
          clear hs hs1
          by_cases hm : f1 + 1 > 1099511627776
          case pos =>
            have hmb5 : decide (1099511627776 < f1 + 1) = true := decide_eq_true hm
            rw [if_pos hm] at H0
            clear hm
            injection H0 with H0
            injection H0 with h2 h3
            have HE1 := Aside0.mk h2
            have HE2 := Aside0.mk h3
            clear h2 h3 H
            have huNote := Try.underlying24
            go_enter Try.func10, Try.ntmps10
            go_wp2_with (first | ((with_reducible refine gate_dst (N := 3) rfl ?_); refine box_event ?hg (N := 3) ?hd (cs := #[.int .i64 a1_0, .int .i64 a1_1, .int .i64 a1_2]) (t := 24) ?hr ?_; (case hd => rfl); (case hg => rfl); (case hr => first | (go_simp; done) | (go_simp; rfl)); intro gb hg w1 hbox hb; have HB := Aside0.mk (below_step HB0.out hb); have BK := Aside0.mk hbox; have GW : w.heap.size ≤ gb := (by rw [hg]; exact Nat.le_refl _); clear hb hbox hg; have hc0 : w1.cell? ⟨gb, 0, none⟩ = some (.int .i64 a1_0) := (blk_cell BK.out 0).trans rfl; have hc1 : w1.cell? ⟨gb, 1, none⟩ = some (.int .i64 a1_1) := (blk_cell BK.out 1).trans rfl; have hc2 : w1.cell? ⟨gb, 2, none⟩ = some (.int .i64 a1_2) := (blk_cell BK.out 2).trans rfl) | (go_at_call 23; fail))
            refine (txn_Check.calls a1_0 a1_1 a1_2 _ _ AC.out).mono ?_
            rintro e w2 ⟨rfl, hb⟩
            have HBn := Aside0.mk (below_step HB.out hb)
            have BKn := Aside0.mk (blk_below BK.out hb)
            clear hb hc0 hc1 hc2 HB BK
            have HB := HBn
            have BK := BKn
            clear HBn BKn
            have hc0 : w2.cell? ⟨gb, 0, none⟩ = some (.int .i64 a1_0) := (blk_cell BK.out 0).trans rfl
            have hc1 : w2.cell? ⟨gb, 1, none⟩ = some (.int .i64 a1_1) := (blk_cell BK.out 1).trans rfl
            have hc2 : w2.cell? ⟨gb, 2, none⟩ = some (.int .i64 a1_2) := (blk_cell BK.out 2).trans rfl
            go_wp2_with (go_at_call 24; fail)
            refine (txn_right.calls _ _ l0 _ _ (Kd.C_below HR.out HB.out) HC.out AR.out).mono ?_
            rintro e w3 ⟨rfl, hb⟩
            have HBn := Aside0.mk (below_step HB.out hb)
            have BKn := Aside0.mk (blk_below BK.out hb)
            clear hb hc0 hc1 hc2 HB BK
            have HB := HBn
            have BK := BKn
            clear HBn BKn
            have hc0 : w3.cell? ⟨gb, 0, none⟩ = some (.int .i64 a1_0) := (blk_cell BK.out 0).trans rfl
            have hc1 : w3.cell? ⟨gb, 1, none⟩ = some (.int .i64 a1_1) := (blk_cell BK.out 1).trans rfl
            have hc2 : w3.cell? ⟨gb, 2, none⟩ = some (.int .i64 a1_2) := (blk_cell BK.out 2).trans rfl
            have hb40 : l0.length * 40 ≤ 140737488355328 := by omega
            go_wp2_with (fail)
            refine (clone27 _ _ l0 _ (Kd.C_below HR.out HB.out) HC.out hb40).mono ?_
            rintro e W4 ⟨v1, rfl, hr, hb⟩
            have HB4 := Aside0.mk (below_step HB.out hb)
            have BK4 := Aside0.mk (blk_below BK.out hb)
            have hgb3 : gb < w3.heap.size := blk_lt BK.out
            have HZ3 := Aside0.mk HB.out.size
            have hz34 : w3.heap.size ≤ W4.heap.size := hb.size
            clear hb hb40 hc0 hc1 hc2 HB BK
            obtain ⟨A4, c4, hv4, hlc4, hC4⟩ := Kd.R_reads hr
            subst hv4
            have HC4 := Aside0.mk hC4
            have HLC4 := Aside0.mk hlc4
            clear hC4 hlc4
            have hc0 : W4.cell? ⟨gb, 0, none⟩ = some (.int .i64 a1_0) := (blk_cell BK4.out 0).trans rfl
            have hc1 : W4.cell? ⟨gb, 1, none⟩ = some (.int .i64 a1_1) := (blk_cell BK4.out 1).trans rfl
            have HR4 := Aside0.mk hr
            clear hr
            go_wp2_with (fail)
            refine (HBS.out _ _ _ HC4.out HLC4.out).mono ?_
            rintro e W5 ⟨rfl, hb⟩
            have HB5 := Aside0.mk (below_step HB4.out hb)
            have BK5 := Aside0.mk (blk_below BK4.out hb)
            have HR5 := Aside0.mk (Kd.R_below HR4.out hb)
            have hz45 : W4.heap.size ≤ W5.heap.size := hb.size
            clear hb hc0 hc1 HC4 HLC4 HB4 BK4 HR4
            rw [HF.out]
            have hc0 : W5.cell? ⟨gb, 0, none⟩ = some (.int .i64 a1_0) := (blk_cell BK5.out 0).trans rfl
            have hc1 : W5.cell? ⟨gb, 1, none⟩ = some (.int .i64 a1_1) := (blk_cell BK5.out 1).trans rfl
            have hc2 : W5.cell? ⟨gb, 2, none⟩ = some (.int .i64 a1_2) := (blk_cell BK5.out 2).trans rfl
            have HB := HB5
            obtain ⟨g, c, cur, hv, hg1, hg2, hg3, hg4, hg5, hg6⟩ := Sl.R_open flat27 HR5.out (Nat.lt_of_le_of_lt (Nat.zero_le _) HIL.out)
            injection hv with hv1 _ hv2
            subst hv1
            subst hv2
            have HROW : Aside0 (row27 W5 g (l0.set i ⟨f0, f1, f2, f3, f4⟩) c4) := ⟨⟨cur, hg2, hg5, by rw [HX.out HIL.out, List.set_getElem_self]; exact hg6⟩⟩
            have HG1 := Aside0.mk (show w.heap.size ≤ g ∧ gb < g from ⟨Nat.le_trans HZ3.out hg1, Nat.lt_of_lt_of_le hgb3 hg1⟩)
            have HG4 := Aside0.mk (And.intro hg3 hg4)
            have hne : ¬ gb = g := Nat.ne_of_lt HG1.out.2
            have hne2 : ¬ g = gb := fun e => hne e.symm
            clear hg1 hg2 hg3 hg4 hg5 hg6
            have hix : (i : Int) < (l0.length : Int) := by have := HIL.out; omega
            have hi0 : (0 : Int) ≤ (i : Int) := by omega
            have hx1 : W5.cell? ⟨g, i * 5 + 1, none⟩ = some (.int .i64 f1) := row_cell27 HROW.out HIL.out 1 (by omega) _ rfl
            have hx2 : W5.cell? ⟨g, i * 5 + 2, none⟩ = some (.int .i64 f2) := row_cell27 HROW.out HIL.out 2 (by omega) _ rfl
            have hx3 : W5.cell? ⟨g, i * 5 + 3, none⟩ = some (.int .i64 f3) := row_cell27 HROW.out HIL.out 3 (by omega) _ rfl
            have hx4 : W5.cell? ⟨g, i * 5 + 4, none⟩ = some (.int .i64 f4) := row_cell27 HROW.out HIL.out 4 (by omega) _ rfl
            have hf1 : W5.frozen? ⟨g, i * 5 + 1, none⟩ = false := row_frozen27 HROW.out _
            have hf2 : W5.frozen? ⟨g, i * 5 + 2, none⟩ = false := row_frozen27 HROW.out _
            have hf3 : W5.frozen? ⟨g, i * 5 + 3, none⟩ = false := row_frozen27 HROW.out _
            have hf4 : W5.frozen? ⟨g, i * 5 + 4, none⟩ = false := row_frozen27 HROW.out _
            go_wp2
            go_ret2
            exact ⟨_, by rw [← HE2.out]; rfl, by rw [← HE1.out]; exact Kd.R_nil _ _ _ _ _, below_set (below_set (below_set (below_set HB5.out HG1.out.1) HG1.out.1) HG1.out.1) HG1.out.1⟩
          case neg =>
            have hmb5 : decide (1099511627776 < f1 + 1) = false := decide_eq_false hm
            rw [if_neg hm] at H0
            clear hm
            injection H0 with H0
            injection H0 with h2 h3
            have HE1 := Aside0.mk h2
            have HE2 := Aside0.mk h3
            clear h2 h3 H
            have huNote := Try.underlying24
            go_enter Try.func10, Try.ntmps10
            go_wp2_with (first | ((with_reducible refine gate_dst (N := 3) rfl ?_); refine box_event ?hg (N := 3) ?hd (cs := #[.int .i64 a1_0, .int .i64 a1_1, .int .i64 a1_2]) (t := 24) ?hr ?_; (case hd => rfl); (case hg => rfl); (case hr => first | (go_simp; done) | (go_simp; rfl)); intro gb hg w1 hbox hb; have HB := Aside0.mk (below_step HB0.out hb); have BK := Aside0.mk hbox; have GW : w.heap.size ≤ gb := (by rw [hg]; exact Nat.le_refl _); clear hb hbox hg; have hc0 : w1.cell? ⟨gb, 0, none⟩ = some (.int .i64 a1_0) := (blk_cell BK.out 0).trans rfl; have hc1 : w1.cell? ⟨gb, 1, none⟩ = some (.int .i64 a1_1) := (blk_cell BK.out 1).trans rfl; have hc2 : w1.cell? ⟨gb, 2, none⟩ = some (.int .i64 a1_2) := (blk_cell BK.out 2).trans rfl) | (go_at_call 23; fail))
            refine (txn_Check.calls a1_0 a1_1 a1_2 _ _ AC.out).mono ?_
            rintro e w2 ⟨rfl, hb⟩
            have HBn := Aside0.mk (below_step HB.out hb)
            have BKn := Aside0.mk (blk_below BK.out hb)
            clear hb hc0 hc1 hc2 HB BK
            have HB := HBn
            have BK := BKn
            clear HBn BKn
            have hc0 : w2.cell? ⟨gb, 0, none⟩ = some (.int .i64 a1_0) := (blk_cell BK.out 0).trans rfl
            have hc1 : w2.cell? ⟨gb, 1, none⟩ = some (.int .i64 a1_1) := (blk_cell BK.out 1).trans rfl
            have hc2 : w2.cell? ⟨gb, 2, none⟩ = some (.int .i64 a1_2) := (blk_cell BK.out 2).trans rfl
            go_wp2_with (go_at_call 24; fail)
            refine (txn_right.calls _ _ l0 _ _ (Kd.C_below HR.out HB.out) HC.out AR.out).mono ?_
            rintro e w3 ⟨rfl, hb⟩
            have HBn := Aside0.mk (below_step HB.out hb)
            have BKn := Aside0.mk (blk_below BK.out hb)
            clear hb hc0 hc1 hc2 HB BK
            have HB := HBn
            have BK := BKn
            clear HBn BKn
            have hc0 : w3.cell? ⟨gb, 0, none⟩ = some (.int .i64 a1_0) := (blk_cell BK.out 0).trans rfl
            have hc1 : w3.cell? ⟨gb, 1, none⟩ = some (.int .i64 a1_1) := (blk_cell BK.out 1).trans rfl
            have hc2 : w3.cell? ⟨gb, 2, none⟩ = some (.int .i64 a1_2) := (blk_cell BK.out 2).trans rfl
            have hb40 : l0.length * 40 ≤ 140737488355328 := by omega
            go_wp2_with (fail)
            refine (clone27 _ _ l0 _ (Kd.C_below HR.out HB.out) HC.out hb40).mono ?_
            rintro e W4 ⟨v1, rfl, hr, hb⟩
            have HB4 := Aside0.mk (below_step HB.out hb)
            have BK4 := Aside0.mk (blk_below BK.out hb)
            have hgb3 : gb < w3.heap.size := blk_lt BK.out
            have HZ3 := Aside0.mk HB.out.size
            have hz34 : w3.heap.size ≤ W4.heap.size := hb.size
            clear hb hb40 hc0 hc1 hc2 HB BK
            obtain ⟨A4, c4, hv4, hlc4, hC4⟩ := Kd.R_reads hr
            subst hv4
            have HC4 := Aside0.mk hC4
            have HLC4 := Aside0.mk hlc4
            clear hC4 hlc4
            have hc0 : W4.cell? ⟨gb, 0, none⟩ = some (.int .i64 a1_0) := (blk_cell BK4.out 0).trans rfl
            have hc1 : W4.cell? ⟨gb, 1, none⟩ = some (.int .i64 a1_1) := (blk_cell BK4.out 1).trans rfl
            have HR4 := Aside0.mk hr
            clear hr
            go_wp2_with (fail)
            refine (HBS.out _ _ _ HC4.out HLC4.out).mono ?_
            rintro e W5 ⟨rfl, hb⟩
            have HB5 := Aside0.mk (below_step HB4.out hb)
            have BK5 := Aside0.mk (blk_below BK4.out hb)
            have HR5 := Aside0.mk (Kd.R_below HR4.out hb)
            have hz45 : W4.heap.size ≤ W5.heap.size := hb.size
            clear hb hc0 hc1 HC4 HLC4 HB4 BK4 HR4
            rw [HF.out]
            have hc0 : W5.cell? ⟨gb, 0, none⟩ = some (.int .i64 a1_0) := (blk_cell BK5.out 0).trans rfl
            have hc1 : W5.cell? ⟨gb, 1, none⟩ = some (.int .i64 a1_1) := (blk_cell BK5.out 1).trans rfl
            have hc2 : W5.cell? ⟨gb, 2, none⟩ = some (.int .i64 a1_2) := (blk_cell BK5.out 2).trans rfl
            have HB := HB5
            obtain ⟨g, c, cur, hv, hg1, hg2, hg3, hg4, hg5, hg6⟩ := Sl.R_open flat27 HR5.out (Nat.lt_of_le_of_lt (Nat.zero_le _) HIL.out)
            injection hv with hv1 _ hv2
            subst hv1
            subst hv2
            have HROW : Aside0 (row27 W5 g (l0.set i ⟨f0, f1, f2, f3, f4⟩) c4) := ⟨⟨cur, hg2, hg5, by rw [HX.out HIL.out, List.set_getElem_self]; exact hg6⟩⟩
            have HG1 := Aside0.mk (show w.heap.size ≤ g ∧ gb < g from ⟨Nat.le_trans HZ3.out hg1, Nat.lt_of_lt_of_le hgb3 hg1⟩)
            have HG4 := Aside0.mk (And.intro hg3 hg4)
            have hne : ¬ gb = g := Nat.ne_of_lt HG1.out.2
            have hne2 : ¬ g = gb := fun e => hne e.symm
            clear hg1 hg2 hg3 hg4 hg5 hg6
            have hix : (i : Int) < (l0.length : Int) := by have := HIL.out; omega
            have hi0 : (0 : Int) ≤ (i : Int) := by omega
            have hx1 : W5.cell? ⟨g, i * 5 + 1, none⟩ = some (.int .i64 f1) := row_cell27 HROW.out HIL.out 1 (by omega) _ rfl
            have hx2 : W5.cell? ⟨g, i * 5 + 2, none⟩ = some (.int .i64 f2) := row_cell27 HROW.out HIL.out 2 (by omega) _ rfl
            have hx3 : W5.cell? ⟨g, i * 5 + 3, none⟩ = some (.int .i64 f3) := row_cell27 HROW.out HIL.out 3 (by omega) _ rfl
            have hx4 : W5.cell? ⟨g, i * 5 + 4, none⟩ = some (.int .i64 f4) := row_cell27 HROW.out HIL.out 4 (by omega) _ rfl
            have hf1 : W5.frozen? ⟨g, i * 5 + 1, none⟩ = false := row_frozen27 HROW.out _
            have hf2 : W5.frozen? ⟨g, i * 5 + 2, none⟩ = false := row_frozen27 HROW.out _
            have hf3 : W5.frozen? ⟨g, i * 5 + 3, none⟩ = false := row_frozen27 HROW.out _
            have hf4 : W5.frozen? ⟨g, i * 5 + 4, none⟩ = false := row_frozen27 HROW.out _
            go_wp2
            go_ret2
            have hr1 := row_set27 HROW.out HIL.out 1 (by omega) (.int .i64 (f1 + 1)) ⟨f0, f1 + 1, f2, f3, f4⟩ rfl
            have hr2 := row_set27 hr1 HIL.out 2 (by omega) (.int .i64 1) ⟨f0, f1 + 1, 1, f3, f4⟩ rfl
            have hr3 := row_set27 hr2 HIL.out 3 (by omega) (.int .i64 0) ⟨f0, f1 + 1, 1, 0, f4⟩ rfl
            have hr4 := row_set27 hr3 HIL.out 4 (by omega) (.int .i64 f2) ⟨f0, f1 + 1, 1, 0, f2⟩ rfl
            have hfin := row_R27 hr4 HG1.out.1 (by rw [List.length_set]; exact HG4.out.1) HG4.out.2
            rw [List.length_set] at hfin
            exact ⟨.slice (some ⟨g, 0, none⟩) l0.length c4, by rw [← HE2.out]; rfl, by rw [← HE1.out]; exact hfin, below_set (below_set (below_set (below_set HB5.out HG1.out.1) HG1.out.1) HG1.out.1) HG1.out.1⟩
        case neg =>
          have hsb : (f2 != 3) = true := bne_iff_ne.2 hs1
          have hsc : (f2 != 4) = false := bne_eq_false_iff_eq.2 (by omega)
          clear hs hs1
          by_cases hm : f1 + 1 > 1099511627776
          case pos =>
            have hmb5 : decide (1099511627776 < f1 + 1) = true := decide_eq_true hm
            rw [if_pos hm] at H0
            clear hm
            injection H0 with H0
            injection H0 with h2 h3
            have HE1 := Aside0.mk h2
            have HE2 := Aside0.mk h3
            clear h2 h3 H
            have huNote := Try.underlying24
            go_enter Try.func10, Try.ntmps10
            go_wp2_with (first | ((with_reducible refine gate_dst (N := 3) rfl ?_); refine box_event ?hg (N := 3) ?hd (cs := #[.int .i64 a1_0, .int .i64 a1_1, .int .i64 a1_2]) (t := 24) ?hr ?_; (case hd => rfl); (case hg => rfl); (case hr => first | (go_simp; done) | (go_simp; rfl)); intro gb hg w1 hbox hb; have HB := Aside0.mk (below_step HB0.out hb); have BK := Aside0.mk hbox; have GW : w.heap.size ≤ gb := (by rw [hg]; exact Nat.le_refl _); clear hb hbox hg; have hc0 : w1.cell? ⟨gb, 0, none⟩ = some (.int .i64 a1_0) := (blk_cell BK.out 0).trans rfl; have hc1 : w1.cell? ⟨gb, 1, none⟩ = some (.int .i64 a1_1) := (blk_cell BK.out 1).trans rfl; have hc2 : w1.cell? ⟨gb, 2, none⟩ = some (.int .i64 a1_2) := (blk_cell BK.out 2).trans rfl) | (go_at_call 23; fail))
            refine (txn_Check.calls a1_0 a1_1 a1_2 _ _ AC.out).mono ?_
            rintro e w2 ⟨rfl, hb⟩
            have HBn := Aside0.mk (below_step HB.out hb)
            have BKn := Aside0.mk (blk_below BK.out hb)
            clear hb hc0 hc1 hc2 HB BK
            have HB := HBn
            have BK := BKn
            clear HBn BKn
            have hc0 : w2.cell? ⟨gb, 0, none⟩ = some (.int .i64 a1_0) := (blk_cell BK.out 0).trans rfl
            have hc1 : w2.cell? ⟨gb, 1, none⟩ = some (.int .i64 a1_1) := (blk_cell BK.out 1).trans rfl
            have hc2 : w2.cell? ⟨gb, 2, none⟩ = some (.int .i64 a1_2) := (blk_cell BK.out 2).trans rfl
            go_wp2_with (go_at_call 24; fail)
            refine (txn_right.calls _ _ l0 _ _ (Kd.C_below HR.out HB.out) HC.out AR.out).mono ?_
            rintro e w3 ⟨rfl, hb⟩
            have HBn := Aside0.mk (below_step HB.out hb)
            have BKn := Aside0.mk (blk_below BK.out hb)
            clear hb hc0 hc1 hc2 HB BK
            have HB := HBn
            have BK := BKn
            clear HBn BKn
            have hc0 : w3.cell? ⟨gb, 0, none⟩ = some (.int .i64 a1_0) := (blk_cell BK.out 0).trans rfl
            have hc1 : w3.cell? ⟨gb, 1, none⟩ = some (.int .i64 a1_1) := (blk_cell BK.out 1).trans rfl
            have hc2 : w3.cell? ⟨gb, 2, none⟩ = some (.int .i64 a1_2) := (blk_cell BK.out 2).trans rfl
            have hb40 : l0.length * 40 ≤ 140737488355328 := by omega
            go_wp2_with (fail)
            refine (clone27 _ _ l0 _ (Kd.C_below HR.out HB.out) HC.out hb40).mono ?_
            rintro e W4 ⟨v1, rfl, hr, hb⟩
            have HB4 := Aside0.mk (below_step HB.out hb)
            have BK4 := Aside0.mk (blk_below BK.out hb)
            have hgb3 : gb < w3.heap.size := blk_lt BK.out
            have HZ3 := Aside0.mk HB.out.size
            have hz34 : w3.heap.size ≤ W4.heap.size := hb.size
            clear hb hb40 hc0 hc1 hc2 HB BK
            obtain ⟨A4, c4, hv4, hlc4, hC4⟩ := Kd.R_reads hr
            subst hv4
            have HC4 := Aside0.mk hC4
            have HLC4 := Aside0.mk hlc4
            clear hC4 hlc4
            have hc0 : W4.cell? ⟨gb, 0, none⟩ = some (.int .i64 a1_0) := (blk_cell BK4.out 0).trans rfl
            have hc1 : W4.cell? ⟨gb, 1, none⟩ = some (.int .i64 a1_1) := (blk_cell BK4.out 1).trans rfl
            have HR4 := Aside0.mk hr
            clear hr
            go_wp2_with (fail)
            refine (HBS.out _ _ _ HC4.out HLC4.out).mono ?_
            rintro e W5 ⟨rfl, hb⟩
            have HB5 := Aside0.mk (below_step HB4.out hb)
            have BK5 := Aside0.mk (blk_below BK4.out hb)
            have HR5 := Aside0.mk (Kd.R_below HR4.out hb)
            have hz45 : W4.heap.size ≤ W5.heap.size := hb.size
            clear hb hc0 hc1 HC4 HLC4 HB4 BK4 HR4
            rw [HF.out]
            have hc0 : W5.cell? ⟨gb, 0, none⟩ = some (.int .i64 a1_0) := (blk_cell BK5.out 0).trans rfl
            have hc1 : W5.cell? ⟨gb, 1, none⟩ = some (.int .i64 a1_1) := (blk_cell BK5.out 1).trans rfl
            have hc2 : W5.cell? ⟨gb, 2, none⟩ = some (.int .i64 a1_2) := (blk_cell BK5.out 2).trans rfl
            have HB := HB5
            obtain ⟨g, c, cur, hv, hg1, hg2, hg3, hg4, hg5, hg6⟩ := Sl.R_open flat27 HR5.out (Nat.lt_of_le_of_lt (Nat.zero_le _) HIL.out)
            injection hv with hv1 _ hv2
            subst hv1
            subst hv2
            have HROW : Aside0 (row27 W5 g (l0.set i ⟨f0, f1, f2, f3, f4⟩) c4) := ⟨⟨cur, hg2, hg5, by rw [HX.out HIL.out, List.set_getElem_self]; exact hg6⟩⟩
            have HG1 := Aside0.mk (show w.heap.size ≤ g ∧ gb < g from ⟨Nat.le_trans HZ3.out hg1, Nat.lt_of_lt_of_le hgb3 hg1⟩)
            have HG4 := Aside0.mk (And.intro hg3 hg4)
            have hne : ¬ gb = g := Nat.ne_of_lt HG1.out.2
            have hne2 : ¬ g = gb := fun e => hne e.symm
            clear hg1 hg2 hg3 hg4 hg5 hg6
            have hix : (i : Int) < (l0.length : Int) := by have := HIL.out; omega
            have hi0 : (0 : Int) ≤ (i : Int) := by omega
            have hx1 : W5.cell? ⟨g, i * 5 + 1, none⟩ = some (.int .i64 f1) := row_cell27 HROW.out HIL.out 1 (by omega) _ rfl
            have hx2 : W5.cell? ⟨g, i * 5 + 2, none⟩ = some (.int .i64 f2) := row_cell27 HROW.out HIL.out 2 (by omega) _ rfl
            have hx3 : W5.cell? ⟨g, i * 5 + 3, none⟩ = some (.int .i64 f3) := row_cell27 HROW.out HIL.out 3 (by omega) _ rfl
            have hx4 : W5.cell? ⟨g, i * 5 + 4, none⟩ = some (.int .i64 f4) := row_cell27 HROW.out HIL.out 4 (by omega) _ rfl
            have hf1 : W5.frozen? ⟨g, i * 5 + 1, none⟩ = false := row_frozen27 HROW.out _
            have hf2 : W5.frozen? ⟨g, i * 5 + 2, none⟩ = false := row_frozen27 HROW.out _
            have hf3 : W5.frozen? ⟨g, i * 5 + 3, none⟩ = false := row_frozen27 HROW.out _
            have hf4 : W5.frozen? ⟨g, i * 5 + 4, none⟩ = false := row_frozen27 HROW.out _
            go_wp2
            go_ret2
            exact ⟨_, by rw [← HE2.out]; rfl, by rw [← HE1.out]; exact Kd.R_nil _ _ _ _ _, below_set (below_set (below_set (below_set HB5.out HG1.out.1) HG1.out.1) HG1.out.1) HG1.out.1⟩
          case neg =>
            have hmb5 : decide (1099511627776 < f1 + 1) = false := decide_eq_false hm
            rw [if_neg hm] at H0
            clear hm
            injection H0 with H0
            injection H0 with h2 h3
            have HE1 := Aside0.mk h2
            have HE2 := Aside0.mk h3
            clear h2 h3 H
            have huNote := Try.underlying24
            go_enter Try.func10, Try.ntmps10
            go_wp2_with (first | ((with_reducible refine gate_dst (N := 3) rfl ?_); refine box_event ?hg (N := 3) ?hd (cs := #[.int .i64 a1_0, .int .i64 a1_1, .int .i64 a1_2]) (t := 24) ?hr ?_; (case hd => rfl); (case hg => rfl); (case hr => first | (go_simp; done) | (go_simp; rfl)); intro gb hg w1 hbox hb; have HB := Aside0.mk (below_step HB0.out hb); have BK := Aside0.mk hbox; have GW : w.heap.size ≤ gb := (by rw [hg]; exact Nat.le_refl _); clear hb hbox hg; have hc0 : w1.cell? ⟨gb, 0, none⟩ = some (.int .i64 a1_0) := (blk_cell BK.out 0).trans rfl; have hc1 : w1.cell? ⟨gb, 1, none⟩ = some (.int .i64 a1_1) := (blk_cell BK.out 1).trans rfl; have hc2 : w1.cell? ⟨gb, 2, none⟩ = some (.int .i64 a1_2) := (blk_cell BK.out 2).trans rfl) | (go_at_call 23; fail))
            refine (txn_Check.calls a1_0 a1_1 a1_2 _ _ AC.out).mono ?_
            rintro e w2 ⟨rfl, hb⟩
            have HBn := Aside0.mk (below_step HB.out hb)
            have BKn := Aside0.mk (blk_below BK.out hb)
            clear hb hc0 hc1 hc2 HB BK
            have HB := HBn
            have BK := BKn
            clear HBn BKn
            have hc0 : w2.cell? ⟨gb, 0, none⟩ = some (.int .i64 a1_0) := (blk_cell BK.out 0).trans rfl
            have hc1 : w2.cell? ⟨gb, 1, none⟩ = some (.int .i64 a1_1) := (blk_cell BK.out 1).trans rfl
            have hc2 : w2.cell? ⟨gb, 2, none⟩ = some (.int .i64 a1_2) := (blk_cell BK.out 2).trans rfl
            go_wp2_with (go_at_call 24; fail)
            refine (txn_right.calls _ _ l0 _ _ (Kd.C_below HR.out HB.out) HC.out AR.out).mono ?_
            rintro e w3 ⟨rfl, hb⟩
            have HBn := Aside0.mk (below_step HB.out hb)
            have BKn := Aside0.mk (blk_below BK.out hb)
            clear hb hc0 hc1 hc2 HB BK
            have HB := HBn
            have BK := BKn
            clear HBn BKn
            have hc0 : w3.cell? ⟨gb, 0, none⟩ = some (.int .i64 a1_0) := (blk_cell BK.out 0).trans rfl
            have hc1 : w3.cell? ⟨gb, 1, none⟩ = some (.int .i64 a1_1) := (blk_cell BK.out 1).trans rfl
            have hc2 : w3.cell? ⟨gb, 2, none⟩ = some (.int .i64 a1_2) := (blk_cell BK.out 2).trans rfl
            have hb40 : l0.length * 40 ≤ 140737488355328 := by omega
            go_wp2_with (fail)
            refine (clone27 _ _ l0 _ (Kd.C_below HR.out HB.out) HC.out hb40).mono ?_
            rintro e W4 ⟨v1, rfl, hr, hb⟩
            have HB4 := Aside0.mk (below_step HB.out hb)
            have BK4 := Aside0.mk (blk_below BK.out hb)
            have hgb3 : gb < w3.heap.size := blk_lt BK.out
            have HZ3 := Aside0.mk HB.out.size
            have hz34 : w3.heap.size ≤ W4.heap.size := hb.size
            clear hb hb40 hc0 hc1 hc2 HB BK
            obtain ⟨A4, c4, hv4, hlc4, hC4⟩ := Kd.R_reads hr
            subst hv4
            have HC4 := Aside0.mk hC4
            have HLC4 := Aside0.mk hlc4
            clear hC4 hlc4
            have hc0 : W4.cell? ⟨gb, 0, none⟩ = some (.int .i64 a1_0) := (blk_cell BK4.out 0).trans rfl
            have hc1 : W4.cell? ⟨gb, 1, none⟩ = some (.int .i64 a1_1) := (blk_cell BK4.out 1).trans rfl
            have HR4 := Aside0.mk hr
            clear hr
            go_wp2_with (fail)
            refine (HBS.out _ _ _ HC4.out HLC4.out).mono ?_
            rintro e W5 ⟨rfl, hb⟩
            have HB5 := Aside0.mk (below_step HB4.out hb)
            have BK5 := Aside0.mk (blk_below BK4.out hb)
            have HR5 := Aside0.mk (Kd.R_below HR4.out hb)
            have hz45 : W4.heap.size ≤ W5.heap.size := hb.size
            clear hb hc0 hc1 HC4 HLC4 HB4 BK4 HR4
            rw [HF.out]
            have hc0 : W5.cell? ⟨gb, 0, none⟩ = some (.int .i64 a1_0) := (blk_cell BK5.out 0).trans rfl
            have hc1 : W5.cell? ⟨gb, 1, none⟩ = some (.int .i64 a1_1) := (blk_cell BK5.out 1).trans rfl
            have hc2 : W5.cell? ⟨gb, 2, none⟩ = some (.int .i64 a1_2) := (blk_cell BK5.out 2).trans rfl
            have HB := HB5
            obtain ⟨g, c, cur, hv, hg1, hg2, hg3, hg4, hg5, hg6⟩ := Sl.R_open flat27 HR5.out (Nat.lt_of_le_of_lt (Nat.zero_le _) HIL.out)
            injection hv with hv1 _ hv2
            subst hv1
            subst hv2
            have HROW : Aside0 (row27 W5 g (l0.set i ⟨f0, f1, f2, f3, f4⟩) c4) := ⟨⟨cur, hg2, hg5, by rw [HX.out HIL.out, List.set_getElem_self]; exact hg6⟩⟩
            have HG1 := Aside0.mk (show w.heap.size ≤ g ∧ gb < g from ⟨Nat.le_trans HZ3.out hg1, Nat.lt_of_lt_of_le hgb3 hg1⟩)
            have HG4 := Aside0.mk (And.intro hg3 hg4)
            have hne : ¬ gb = g := Nat.ne_of_lt HG1.out.2
            have hne2 : ¬ g = gb := fun e => hne e.symm
            clear hg1 hg2 hg3 hg4 hg5 hg6
            have hix : (i : Int) < (l0.length : Int) := by have := HIL.out; omega
            have hi0 : (0 : Int) ≤ (i : Int) := by omega
            have hx1 : W5.cell? ⟨g, i * 5 + 1, none⟩ = some (.int .i64 f1) := row_cell27 HROW.out HIL.out 1 (by omega) _ rfl
            have hx2 : W5.cell? ⟨g, i * 5 + 2, none⟩ = some (.int .i64 f2) := row_cell27 HROW.out HIL.out 2 (by omega) _ rfl
            have hx3 : W5.cell? ⟨g, i * 5 + 3, none⟩ = some (.int .i64 f3) := row_cell27 HROW.out HIL.out 3 (by omega) _ rfl
            have hx4 : W5.cell? ⟨g, i * 5 + 4, none⟩ = some (.int .i64 f4) := row_cell27 HROW.out HIL.out 4 (by omega) _ rfl
            have hf1 : W5.frozen? ⟨g, i * 5 + 1, none⟩ = false := row_frozen27 HROW.out _
            have hf2 : W5.frozen? ⟨g, i * 5 + 2, none⟩ = false := row_frozen27 HROW.out _
            have hf3 : W5.frozen? ⟨g, i * 5 + 3, none⟩ = false := row_frozen27 HROW.out _
            have hf4 : W5.frozen? ⟨g, i * 5 + 4, none⟩ = false := row_frozen27 HROW.out _
            go_wp2
            go_ret2
            have hr1 := row_set27 HROW.out HIL.out 1 (by omega) (.int .i64 (f1 + 1)) ⟨f0, f1 + 1, f2, f3, f4⟩ rfl
            have hr2 := row_set27 hr1 HIL.out 2 (by omega) (.int .i64 1) ⟨f0, f1 + 1, 1, f3, f4⟩ rfl
            have hr3 := row_set27 hr2 HIL.out 3 (by omega) (.int .i64 0) ⟨f0, f1 + 1, 1, 0, f4⟩ rfl
            have hr4 := row_set27 hr3 HIL.out 4 (by omega) (.int .i64 f2) ⟨f0, f1 + 1, 1, 0, f2⟩ rfl
            have hfin := row_R27 hr4 HG1.out.1 (by rw [List.length_set]; exact HG4.out.1) HG4.out.2
            rw [List.length_set] at hfin
            exact ⟨.slice (some ⟨g, 0, none⟩) l0.length c4, by rw [← HE2.out]; rfl, by rw [← HE1.out]; exact hfin, below_set (below_set (below_set (below_set HB5.out HG1.out.1) HG1.out.1) HG1.out.1) HG1.out.1⟩
    have q5 : (a1_0 == 5) = false := beq_eq_false_iff_ne.2 hk5
    have H0 := H.out
    rw [txn_Fold.turn, if_neg hk1, if_neg hk2, if_neg hk5] at H0
    dsimp only at H0
    have hw6 : 3 + a1_0 - 3 = a1_0 := by omega
    by_cases hk3 : a1_0 = 3
    case pos =>
      have q3 : (a1_0 == 3) = true := beq_iff_eq.2 hk3
      clear hk1 hk2 hk5 hk3
      by_cases hs : f2 = 2
      case neg =>
        have hsb : (f2 != 2) = true := bne_iff_ne.2 hs
        rw [if_neg hs] at H0
        injection H0 with H0
        injection H0 with h2 h3
        have HE2 := Aside0.mk h3
        subst h2
        clear h3 H hs
        have huNote := Try.underlying24
        go_enter Try.func10, Try.ntmps10
        go_wp2_with (first | ((with_reducible refine gate_dst (N := 3) rfl ?_); refine box_event ?hg (N := 3) ?hd (cs := #[.int .i64 a1_0, .int .i64 a1_1, .int .i64 a1_2]) (t := 24) ?hr ?_; (case hd => rfl); (case hg => rfl); (case hr => first | (go_simp; done) | (go_simp; rfl)); intro gb hg w1 hbox hb; have HB := Aside0.mk (below_step HB0.out hb); have BK := Aside0.mk hbox; have GW : w.heap.size ≤ gb := (by rw [hg]; exact Nat.le_refl _); clear hb hbox hg; have hc0 : w1.cell? ⟨gb, 0, none⟩ = some (.int .i64 a1_0) := (blk_cell BK.out 0).trans rfl; have hc1 : w1.cell? ⟨gb, 1, none⟩ = some (.int .i64 a1_1) := (blk_cell BK.out 1).trans rfl; have hc2 : w1.cell? ⟨gb, 2, none⟩ = some (.int .i64 a1_2) := (blk_cell BK.out 2).trans rfl) | (go_at_call 23; fail))
        refine (txn_Check.calls a1_0 a1_1 a1_2 _ _ AC.out).mono ?_
        rintro e w2 ⟨rfl, hb⟩
        have HBn := Aside0.mk (below_step HB.out hb)
        have BKn := Aside0.mk (blk_below BK.out hb)
        clear hb hc0 hc1 hc2 HB BK
        have HB := HBn
        have BK := BKn
        clear HBn BKn
        have hc0 : w2.cell? ⟨gb, 0, none⟩ = some (.int .i64 a1_0) := (blk_cell BK.out 0).trans rfl
        have hc1 : w2.cell? ⟨gb, 1, none⟩ = some (.int .i64 a1_1) := (blk_cell BK.out 1).trans rfl
        have hc2 : w2.cell? ⟨gb, 2, none⟩ = some (.int .i64 a1_2) := (blk_cell BK.out 2).trans rfl
        go_wp2_with (go_at_call 24; fail)
        refine (txn_right.calls _ _ l0 _ _ (Kd.C_below HR.out HB.out) HC.out AR.out).mono ?_
        rintro e w3 ⟨rfl, hb⟩
        have HBn := Aside0.mk (below_step HB.out hb)
        have BKn := Aside0.mk (blk_below BK.out hb)
        clear hb hc0 hc1 hc2 HB BK
        have HB := HBn
        have BK := BKn
        clear HBn BKn
        have hc0 : w3.cell? ⟨gb, 0, none⟩ = some (.int .i64 a1_0) := (blk_cell BK.out 0).trans rfl
        have hc1 : w3.cell? ⟨gb, 1, none⟩ = some (.int .i64 a1_1) := (blk_cell BK.out 1).trans rfl
        have hc2 : w3.cell? ⟨gb, 2, none⟩ = some (.int .i64 a1_2) := (blk_cell BK.out 2).trans rfl
        have hb40 : l0.length * 40 ≤ 140737488355328 := by omega
        go_wp2_with (fail)
        refine (clone27 _ _ l0 _ (Kd.C_below HR.out HB.out) HC.out hb40).mono ?_
        rintro e W4 ⟨v1, rfl, hr, hb⟩
        have HB4 := Aside0.mk (below_step HB.out hb)
        have BK4 := Aside0.mk (blk_below BK.out hb)
        have hgb3 : gb < w3.heap.size := blk_lt BK.out
        have HZ3 := Aside0.mk HB.out.size
        have hz34 : w3.heap.size ≤ W4.heap.size := hb.size
        clear hb hb40 hc0 hc1 hc2 HB BK
        obtain ⟨A4, c4, hv4, hlc4, hC4⟩ := Kd.R_reads hr
        subst hv4
        have HC4 := Aside0.mk hC4
        have HLC4 := Aside0.mk hlc4
        clear hC4 hlc4
        have hc0 : W4.cell? ⟨gb, 0, none⟩ = some (.int .i64 a1_0) := (blk_cell BK4.out 0).trans rfl
        have hc1 : W4.cell? ⟨gb, 1, none⟩ = some (.int .i64 a1_1) := (blk_cell BK4.out 1).trans rfl
        have HR4 := Aside0.mk hr
        clear hr
        go_wp2_with (fail)
        refine (HBS.out _ _ _ HC4.out HLC4.out).mono ?_
        rintro e W5 ⟨rfl, hb⟩
        have HB5 := Aside0.mk (below_step HB4.out hb)
        have BK5 := Aside0.mk (blk_below BK4.out hb)
        have HR5 := Aside0.mk (Kd.R_below HR4.out hb)
        have hz45 : W4.heap.size ≤ W5.heap.size := hb.size
        clear hb hc0 hc1 HC4 HLC4 HB4 BK4 HR4
        rw [HF.out]
        have hc0 : W5.cell? ⟨gb, 0, none⟩ = some (.int .i64 a1_0) := (blk_cell BK5.out 0).trans rfl
        have hc1 : W5.cell? ⟨gb, 1, none⟩ = some (.int .i64 a1_1) := (blk_cell BK5.out 1).trans rfl
        have hc2 : W5.cell? ⟨gb, 2, none⟩ = some (.int .i64 a1_2) := (blk_cell BK5.out 2).trans rfl
        have HB := HB5
        obtain ⟨g, c, cur, hv, hg1, hg2, hg3, hg4, hg5, hg6⟩ := Sl.R_open flat27 HR5.out (Nat.lt_of_le_of_lt (Nat.zero_le _) HIL.out)
        injection hv with hv1 _ hv2
        subst hv1
        subst hv2
        have HROW : Aside0 (row27 W5 g (l0.set i ⟨f0, f1, f2, f3, f4⟩) c4) := ⟨⟨cur, hg2, hg5, by rw [HX.out HIL.out, List.set_getElem_self]; exact hg6⟩⟩
        have HG1 := Aside0.mk (show w.heap.size ≤ g ∧ gb < g from ⟨Nat.le_trans HZ3.out hg1, Nat.lt_of_lt_of_le hgb3 hg1⟩)
        have HG4 := Aside0.mk (And.intro hg3 hg4)
        have hne : ¬ gb = g := Nat.ne_of_lt HG1.out.2
        have hne2 : ¬ g = gb := fun e => hne e.symm
        clear hg1 hg2 hg3 hg4 hg5 hg6
        have hix : (i : Int) < (l0.length : Int) := by have := HIL.out; omega
        have hi0 : (0 : Int) ≤ (i : Int) := by omega
        have hx1 : W5.cell? ⟨g, i * 5 + 1, none⟩ = some (.int .i64 f1) := row_cell27 HROW.out HIL.out 1 (by omega) _ rfl
        have hx2 : W5.cell? ⟨g, i * 5 + 2, none⟩ = some (.int .i64 f2) := row_cell27 HROW.out HIL.out 2 (by omega) _ rfl
        have hx3 : W5.cell? ⟨g, i * 5 + 3, none⟩ = some (.int .i64 f3) := row_cell27 HROW.out HIL.out 3 (by omega) _ rfl
        have hx4 : W5.cell? ⟨g, i * 5 + 4, none⟩ = some (.int .i64 f4) := row_cell27 HROW.out HIL.out 4 (by omega) _ rfl
        have hf1 : W5.frozen? ⟨g, i * 5 + 1, none⟩ = false := row_frozen27 HROW.out _
        have hf2 : W5.frozen? ⟨g, i * 5 + 2, none⟩ = false := row_frozen27 HROW.out _
        have hf3 : W5.frozen? ⟨g, i * 5 + 3, none⟩ = false := row_frozen27 HROW.out _
        have hf4 : W5.frozen? ⟨g, i * 5 + 4, none⟩ = false := row_frozen27 HROW.out _
        go_wp2
        go_ret2
        refine ⟨_, ?_, Kd.R_nil _ _ _ _ _, HB.out⟩
        rw [← HE2.out]
        rfl
      case pos =>
        have hsb : (f2 != 2) = false := bne_eq_false_iff_eq.2 hs
        rw [if_pos hs] at H0
        dsimp only at H0
        rw [if_neg (by omega)] at H0
        clear hs
        injection H0 with H0
        injection H0 with h2 h3
        have HE1 := Aside0.mk h2
        have HE2 := Aside0.mk h3
        clear h2 h3 H
        have huNote := Try.underlying24
        go_enter Try.func10, Try.ntmps10
        go_wp2_with (first | ((with_reducible refine gate_dst (N := 3) rfl ?_); refine box_event ?hg (N := 3) ?hd (cs := #[.int .i64 a1_0, .int .i64 a1_1, .int .i64 a1_2]) (t := 24) ?hr ?_; (case hd => rfl); (case hg => rfl); (case hr => first | (go_simp; done) | (go_simp; rfl)); intro gb hg w1 hbox hb; have HB := Aside0.mk (below_step HB0.out hb); have BK := Aside0.mk hbox; have GW : w.heap.size ≤ gb := (by rw [hg]; exact Nat.le_refl _); clear hb hbox hg; have hc0 : w1.cell? ⟨gb, 0, none⟩ = some (.int .i64 a1_0) := (blk_cell BK.out 0).trans rfl; have hc1 : w1.cell? ⟨gb, 1, none⟩ = some (.int .i64 a1_1) := (blk_cell BK.out 1).trans rfl; have hc2 : w1.cell? ⟨gb, 2, none⟩ = some (.int .i64 a1_2) := (blk_cell BK.out 2).trans rfl) | (go_at_call 23; fail))
        refine (txn_Check.calls a1_0 a1_1 a1_2 _ _ AC.out).mono ?_
        rintro e w2 ⟨rfl, hb⟩
        have HBn := Aside0.mk (below_step HB.out hb)
        have BKn := Aside0.mk (blk_below BK.out hb)
        clear hb hc0 hc1 hc2 HB BK
        have HB := HBn
        have BK := BKn
        clear HBn BKn
        have hc0 : w2.cell? ⟨gb, 0, none⟩ = some (.int .i64 a1_0) := (blk_cell BK.out 0).trans rfl
        have hc1 : w2.cell? ⟨gb, 1, none⟩ = some (.int .i64 a1_1) := (blk_cell BK.out 1).trans rfl
        have hc2 : w2.cell? ⟨gb, 2, none⟩ = some (.int .i64 a1_2) := (blk_cell BK.out 2).trans rfl
        go_wp2_with (go_at_call 24; fail)
        refine (txn_right.calls _ _ l0 _ _ (Kd.C_below HR.out HB.out) HC.out AR.out).mono ?_
        rintro e w3 ⟨rfl, hb⟩
        have HBn := Aside0.mk (below_step HB.out hb)
        have BKn := Aside0.mk (blk_below BK.out hb)
        clear hb hc0 hc1 hc2 HB BK
        have HB := HBn
        have BK := BKn
        clear HBn BKn
        have hc0 : w3.cell? ⟨gb, 0, none⟩ = some (.int .i64 a1_0) := (blk_cell BK.out 0).trans rfl
        have hc1 : w3.cell? ⟨gb, 1, none⟩ = some (.int .i64 a1_1) := (blk_cell BK.out 1).trans rfl
        have hc2 : w3.cell? ⟨gb, 2, none⟩ = some (.int .i64 a1_2) := (blk_cell BK.out 2).trans rfl
        have hb40 : l0.length * 40 ≤ 140737488355328 := by omega
        go_wp2_with (fail)
        refine (clone27 _ _ l0 _ (Kd.C_below HR.out HB.out) HC.out hb40).mono ?_
        rintro e W4 ⟨v1, rfl, hr, hb⟩
        have HB4 := Aside0.mk (below_step HB.out hb)
        have BK4 := Aside0.mk (blk_below BK.out hb)
        have hgb3 : gb < w3.heap.size := blk_lt BK.out
        have HZ3 := Aside0.mk HB.out.size
        have hz34 : w3.heap.size ≤ W4.heap.size := hb.size
        clear hb hb40 hc0 hc1 hc2 HB BK
        obtain ⟨A4, c4, hv4, hlc4, hC4⟩ := Kd.R_reads hr
        subst hv4
        have HC4 := Aside0.mk hC4
        have HLC4 := Aside0.mk hlc4
        clear hC4 hlc4
        have hc0 : W4.cell? ⟨gb, 0, none⟩ = some (.int .i64 a1_0) := (blk_cell BK4.out 0).trans rfl
        have hc1 : W4.cell? ⟨gb, 1, none⟩ = some (.int .i64 a1_1) := (blk_cell BK4.out 1).trans rfl
        have HR4 := Aside0.mk hr
        clear hr
        go_wp2_with (fail)
        refine (HBS.out _ _ _ HC4.out HLC4.out).mono ?_
        rintro e W5 ⟨rfl, hb⟩
        have HB5 := Aside0.mk (below_step HB4.out hb)
        have BK5 := Aside0.mk (blk_below BK4.out hb)
        have HR5 := Aside0.mk (Kd.R_below HR4.out hb)
        have hz45 : W4.heap.size ≤ W5.heap.size := hb.size
        clear hb hc0 hc1 HC4 HLC4 HB4 BK4 HR4
        rw [HF.out]
        have hc0 : W5.cell? ⟨gb, 0, none⟩ = some (.int .i64 a1_0) := (blk_cell BK5.out 0).trans rfl
        have hc1 : W5.cell? ⟨gb, 1, none⟩ = some (.int .i64 a1_1) := (blk_cell BK5.out 1).trans rfl
        have hc2 : W5.cell? ⟨gb, 2, none⟩ = some (.int .i64 a1_2) := (blk_cell BK5.out 2).trans rfl
        have HB := HB5
        obtain ⟨g, c, cur, hv, hg1, hg2, hg3, hg4, hg5, hg6⟩ := Sl.R_open flat27 HR5.out (Nat.lt_of_le_of_lt (Nat.zero_le _) HIL.out)
        injection hv with hv1 _ hv2
        subst hv1
        subst hv2
        have HROW : Aside0 (row27 W5 g (l0.set i ⟨f0, f1, f2, f3, f4⟩) c4) := ⟨⟨cur, hg2, hg5, by rw [HX.out HIL.out, List.set_getElem_self]; exact hg6⟩⟩
        have HG1 := Aside0.mk (show w.heap.size ≤ g ∧ gb < g from ⟨Nat.le_trans HZ3.out hg1, Nat.lt_of_lt_of_le hgb3 hg1⟩)
        have HG4 := Aside0.mk (And.intro hg3 hg4)
        have hne : ¬ gb = g := Nat.ne_of_lt HG1.out.2
        have hne2 : ¬ g = gb := fun e => hne e.symm
        clear hg1 hg2 hg3 hg4 hg5 hg6
        have hix : (i : Int) < (l0.length : Int) := by have := HIL.out; omega
        have hi0 : (0 : Int) ≤ (i : Int) := by omega
        have hx1 : W5.cell? ⟨g, i * 5 + 1, none⟩ = some (.int .i64 f1) := row_cell27 HROW.out HIL.out 1 (by omega) _ rfl
        have hx2 : W5.cell? ⟨g, i * 5 + 2, none⟩ = some (.int .i64 f2) := row_cell27 HROW.out HIL.out 2 (by omega) _ rfl
        have hx3 : W5.cell? ⟨g, i * 5 + 3, none⟩ = some (.int .i64 f3) := row_cell27 HROW.out HIL.out 3 (by omega) _ rfl
        have hx4 : W5.cell? ⟨g, i * 5 + 4, none⟩ = some (.int .i64 f4) := row_cell27 HROW.out HIL.out 4 (by omega) _ rfl
        have hf1 : W5.frozen? ⟨g, i * 5 + 1, none⟩ = false := row_frozen27 HROW.out _
        have hf2 : W5.frozen? ⟨g, i * 5 + 2, none⟩ = false := row_frozen27 HROW.out _
        have hf3 : W5.frozen? ⟨g, i * 5 + 3, none⟩ = false := row_frozen27 HROW.out _
        have hf4 : W5.frozen? ⟨g, i * 5 + 4, none⟩ = false := row_frozen27 HROW.out _
        go_wp2
        go_ret2
        have hr1 := row_set27 HROW.out HIL.out 2 (by omega) (.int .i64 a1_0) ⟨f0, f1, a1_0, f3, f4⟩ rfl
        have hfin := row_R27 hr1 HG1.out.1 (by rw [List.length_set]; exact HG4.out.1) HG4.out.2
        rw [List.length_set] at hfin
        exact ⟨.slice (some ⟨g, 0, none⟩) l0.length c4, by rw [← HE2.out]; rfl, by rw [← HE1.out]; exact hfin, below_set HB5.out HG1.out.1⟩
    case neg =>
      have q3 : (a1_0 == 3) = false := beq_eq_false_iff_ne.2 hk3
      have q4 : (a1_0 == 4) = true := beq_iff_eq.2 (by omega)
      clear hk1 hk2 hk5 hk3
      by_cases hs : f2 = 2
      case neg =>
        have hsb : (f2 != 2) = true := bne_iff_ne.2 hs
        rw [if_neg hs] at H0
        injection H0 with H0
        injection H0 with h2 h3
        have HE2 := Aside0.mk h3
        subst h2
        clear h3 H hs
        have huNote := Try.underlying24
        go_enter Try.func10, Try.ntmps10
        go_wp2_with (first | ((with_reducible refine gate_dst (N := 3) rfl ?_); refine box_event ?hg (N := 3) ?hd (cs := #[.int .i64 a1_0, .int .i64 a1_1, .int .i64 a1_2]) (t := 24) ?hr ?_; (case hd => rfl); (case hg => rfl); (case hr => first | (go_simp; done) | (go_simp; rfl)); intro gb hg w1 hbox hb; have HB := Aside0.mk (below_step HB0.out hb); have BK := Aside0.mk hbox; have GW : w.heap.size ≤ gb := (by rw [hg]; exact Nat.le_refl _); clear hb hbox hg; have hc0 : w1.cell? ⟨gb, 0, none⟩ = some (.int .i64 a1_0) := (blk_cell BK.out 0).trans rfl; have hc1 : w1.cell? ⟨gb, 1, none⟩ = some (.int .i64 a1_1) := (blk_cell BK.out 1).trans rfl; have hc2 : w1.cell? ⟨gb, 2, none⟩ = some (.int .i64 a1_2) := (blk_cell BK.out 2).trans rfl) | (go_at_call 23; fail))
        refine (txn_Check.calls a1_0 a1_1 a1_2 _ _ AC.out).mono ?_
        rintro e w2 ⟨rfl, hb⟩
        have HBn := Aside0.mk (below_step HB.out hb)
        have BKn := Aside0.mk (blk_below BK.out hb)
        clear hb hc0 hc1 hc2 HB BK
        have HB := HBn
        have BK := BKn
        clear HBn BKn
        have hc0 : w2.cell? ⟨gb, 0, none⟩ = some (.int .i64 a1_0) := (blk_cell BK.out 0).trans rfl
        have hc1 : w2.cell? ⟨gb, 1, none⟩ = some (.int .i64 a1_1) := (blk_cell BK.out 1).trans rfl
        have hc2 : w2.cell? ⟨gb, 2, none⟩ = some (.int .i64 a1_2) := (blk_cell BK.out 2).trans rfl
        go_wp2_with (go_at_call 24; fail)
        refine (txn_right.calls _ _ l0 _ _ (Kd.C_below HR.out HB.out) HC.out AR.out).mono ?_
        rintro e w3 ⟨rfl, hb⟩
        have HBn := Aside0.mk (below_step HB.out hb)
        have BKn := Aside0.mk (blk_below BK.out hb)
        clear hb hc0 hc1 hc2 HB BK
        have HB := HBn
        have BK := BKn
        clear HBn BKn
        have hc0 : w3.cell? ⟨gb, 0, none⟩ = some (.int .i64 a1_0) := (blk_cell BK.out 0).trans rfl
        have hc1 : w3.cell? ⟨gb, 1, none⟩ = some (.int .i64 a1_1) := (blk_cell BK.out 1).trans rfl
        have hc2 : w3.cell? ⟨gb, 2, none⟩ = some (.int .i64 a1_2) := (blk_cell BK.out 2).trans rfl
        have hb40 : l0.length * 40 ≤ 140737488355328 := by omega
        go_wp2_with (fail)
        refine (clone27 _ _ l0 _ (Kd.C_below HR.out HB.out) HC.out hb40).mono ?_
        rintro e W4 ⟨v1, rfl, hr, hb⟩
        have HB4 := Aside0.mk (below_step HB.out hb)
        have BK4 := Aside0.mk (blk_below BK.out hb)
        have hgb3 : gb < w3.heap.size := blk_lt BK.out
        have HZ3 := Aside0.mk HB.out.size
        have hz34 : w3.heap.size ≤ W4.heap.size := hb.size
        clear hb hb40 hc0 hc1 hc2 HB BK
        obtain ⟨A4, c4, hv4, hlc4, hC4⟩ := Kd.R_reads hr
        subst hv4
        have HC4 := Aside0.mk hC4
        have HLC4 := Aside0.mk hlc4
        clear hC4 hlc4
        have hc0 : W4.cell? ⟨gb, 0, none⟩ = some (.int .i64 a1_0) := (blk_cell BK4.out 0).trans rfl
        have hc1 : W4.cell? ⟨gb, 1, none⟩ = some (.int .i64 a1_1) := (blk_cell BK4.out 1).trans rfl
        have HR4 := Aside0.mk hr
        clear hr
        go_wp2_with (fail)
        refine (HBS.out _ _ _ HC4.out HLC4.out).mono ?_
        rintro e W5 ⟨rfl, hb⟩
        have HB5 := Aside0.mk (below_step HB4.out hb)
        have BK5 := Aside0.mk (blk_below BK4.out hb)
        have HR5 := Aside0.mk (Kd.R_below HR4.out hb)
        have hz45 : W4.heap.size ≤ W5.heap.size := hb.size
        clear hb hc0 hc1 HC4 HLC4 HB4 BK4 HR4
        rw [HF.out]
        have hc0 : W5.cell? ⟨gb, 0, none⟩ = some (.int .i64 a1_0) := (blk_cell BK5.out 0).trans rfl
        have hc1 : W5.cell? ⟨gb, 1, none⟩ = some (.int .i64 a1_1) := (blk_cell BK5.out 1).trans rfl
        have hc2 : W5.cell? ⟨gb, 2, none⟩ = some (.int .i64 a1_2) := (blk_cell BK5.out 2).trans rfl
        have HB := HB5
        obtain ⟨g, c, cur, hv, hg1, hg2, hg3, hg4, hg5, hg6⟩ := Sl.R_open flat27 HR5.out (Nat.lt_of_le_of_lt (Nat.zero_le _) HIL.out)
        injection hv with hv1 _ hv2
        subst hv1
        subst hv2
        have HROW : Aside0 (row27 W5 g (l0.set i ⟨f0, f1, f2, f3, f4⟩) c4) := ⟨⟨cur, hg2, hg5, by rw [HX.out HIL.out, List.set_getElem_self]; exact hg6⟩⟩
        have HG1 := Aside0.mk (show w.heap.size ≤ g ∧ gb < g from ⟨Nat.le_trans HZ3.out hg1, Nat.lt_of_lt_of_le hgb3 hg1⟩)
        have HG4 := Aside0.mk (And.intro hg3 hg4)
        have hne : ¬ gb = g := Nat.ne_of_lt HG1.out.2
        have hne2 : ¬ g = gb := fun e => hne e.symm
        clear hg1 hg2 hg3 hg4 hg5 hg6
        have hix : (i : Int) < (l0.length : Int) := by have := HIL.out; omega
        have hi0 : (0 : Int) ≤ (i : Int) := by omega
        have hx1 : W5.cell? ⟨g, i * 5 + 1, none⟩ = some (.int .i64 f1) := row_cell27 HROW.out HIL.out 1 (by omega) _ rfl
        have hx2 : W5.cell? ⟨g, i * 5 + 2, none⟩ = some (.int .i64 f2) := row_cell27 HROW.out HIL.out 2 (by omega) _ rfl
        have hx3 : W5.cell? ⟨g, i * 5 + 3, none⟩ = some (.int .i64 f3) := row_cell27 HROW.out HIL.out 3 (by omega) _ rfl
        have hx4 : W5.cell? ⟨g, i * 5 + 4, none⟩ = some (.int .i64 f4) := row_cell27 HROW.out HIL.out 4 (by omega) _ rfl
        have hf1 : W5.frozen? ⟨g, i * 5 + 1, none⟩ = false := row_frozen27 HROW.out _
        have hf2 : W5.frozen? ⟨g, i * 5 + 2, none⟩ = false := row_frozen27 HROW.out _
        have hf3 : W5.frozen? ⟨g, i * 5 + 3, none⟩ = false := row_frozen27 HROW.out _
        have hf4 : W5.frozen? ⟨g, i * 5 + 4, none⟩ = false := row_frozen27 HROW.out _
        go_wp2
        go_ret2
        refine ⟨_, ?_, Kd.R_nil _ _ _ _ _, HB.out⟩
        rw [← HE2.out]
        rfl
      case pos =>
        have hsb : (f2 != 2) = false := bne_eq_false_iff_eq.2 hs
        rw [if_pos hs] at H0
        dsimp only at H0
        rw [if_neg (by omega)] at H0
        clear hs
        injection H0 with H0
        injection H0 with h2 h3
        have HE1 := Aside0.mk h2
        have HE2 := Aside0.mk h3
        clear h2 h3 H
        have huNote := Try.underlying24
        go_enter Try.func10, Try.ntmps10
        go_wp2_with (first | ((with_reducible refine gate_dst (N := 3) rfl ?_); refine box_event ?hg (N := 3) ?hd (cs := #[.int .i64 a1_0, .int .i64 a1_1, .int .i64 a1_2]) (t := 24) ?hr ?_; (case hd => rfl); (case hg => rfl); (case hr => first | (go_simp; done) | (go_simp; rfl)); intro gb hg w1 hbox hb; have HB := Aside0.mk (below_step HB0.out hb); have BK := Aside0.mk hbox; have GW : w.heap.size ≤ gb := (by rw [hg]; exact Nat.le_refl _); clear hb hbox hg; have hc0 : w1.cell? ⟨gb, 0, none⟩ = some (.int .i64 a1_0) := (blk_cell BK.out 0).trans rfl; have hc1 : w1.cell? ⟨gb, 1, none⟩ = some (.int .i64 a1_1) := (blk_cell BK.out 1).trans rfl; have hc2 : w1.cell? ⟨gb, 2, none⟩ = some (.int .i64 a1_2) := (blk_cell BK.out 2).trans rfl) | (go_at_call 23; fail))
        refine (txn_Check.calls a1_0 a1_1 a1_2 _ _ AC.out).mono ?_
        rintro e w2 ⟨rfl, hb⟩
        have HBn := Aside0.mk (below_step HB.out hb)
        have BKn := Aside0.mk (blk_below BK.out hb)
        clear hb hc0 hc1 hc2 HB BK
        have HB := HBn
        have BK := BKn
        clear HBn BKn
        have hc0 : w2.cell? ⟨gb, 0, none⟩ = some (.int .i64 a1_0) := (blk_cell BK.out 0).trans rfl
        have hc1 : w2.cell? ⟨gb, 1, none⟩ = some (.int .i64 a1_1) := (blk_cell BK.out 1).trans rfl
        have hc2 : w2.cell? ⟨gb, 2, none⟩ = some (.int .i64 a1_2) := (blk_cell BK.out 2).trans rfl
        go_wp2_with (go_at_call 24; fail)
        refine (txn_right.calls _ _ l0 _ _ (Kd.C_below HR.out HB.out) HC.out AR.out).mono ?_
        rintro e w3 ⟨rfl, hb⟩
        have HBn := Aside0.mk (below_step HB.out hb)
        have BKn := Aside0.mk (blk_below BK.out hb)
        clear hb hc0 hc1 hc2 HB BK
        have HB := HBn
        have BK := BKn
        clear HBn BKn
        have hc0 : w3.cell? ⟨gb, 0, none⟩ = some (.int .i64 a1_0) := (blk_cell BK.out 0).trans rfl
        have hc1 : w3.cell? ⟨gb, 1, none⟩ = some (.int .i64 a1_1) := (blk_cell BK.out 1).trans rfl
        have hc2 : w3.cell? ⟨gb, 2, none⟩ = some (.int .i64 a1_2) := (blk_cell BK.out 2).trans rfl
        have hb40 : l0.length * 40 ≤ 140737488355328 := by omega
        go_wp2_with (fail)
        refine (clone27 _ _ l0 _ (Kd.C_below HR.out HB.out) HC.out hb40).mono ?_
        rintro e W4 ⟨v1, rfl, hr, hb⟩
        have HB4 := Aside0.mk (below_step HB.out hb)
        have BK4 := Aside0.mk (blk_below BK.out hb)
        have hgb3 : gb < w3.heap.size := blk_lt BK.out
        have HZ3 := Aside0.mk HB.out.size
        have hz34 : w3.heap.size ≤ W4.heap.size := hb.size
        clear hb hb40 hc0 hc1 hc2 HB BK
        obtain ⟨A4, c4, hv4, hlc4, hC4⟩ := Kd.R_reads hr
        subst hv4
        have HC4 := Aside0.mk hC4
        have HLC4 := Aside0.mk hlc4
        clear hC4 hlc4
        have hc0 : W4.cell? ⟨gb, 0, none⟩ = some (.int .i64 a1_0) := (blk_cell BK4.out 0).trans rfl
        have hc1 : W4.cell? ⟨gb, 1, none⟩ = some (.int .i64 a1_1) := (blk_cell BK4.out 1).trans rfl
        have HR4 := Aside0.mk hr
        clear hr
        go_wp2_with (fail)
        refine (HBS.out _ _ _ HC4.out HLC4.out).mono ?_
        rintro e W5 ⟨rfl, hb⟩
        have HB5 := Aside0.mk (below_step HB4.out hb)
        have BK5 := Aside0.mk (blk_below BK4.out hb)
        have HR5 := Aside0.mk (Kd.R_below HR4.out hb)
        have hz45 : W4.heap.size ≤ W5.heap.size := hb.size
        clear hb hc0 hc1 HC4 HLC4 HB4 BK4 HR4
        rw [HF.out]
        have hc0 : W5.cell? ⟨gb, 0, none⟩ = some (.int .i64 a1_0) := (blk_cell BK5.out 0).trans rfl
        have hc1 : W5.cell? ⟨gb, 1, none⟩ = some (.int .i64 a1_1) := (blk_cell BK5.out 1).trans rfl
        have hc2 : W5.cell? ⟨gb, 2, none⟩ = some (.int .i64 a1_2) := (blk_cell BK5.out 2).trans rfl
        have HB := HB5
        obtain ⟨g, c, cur, hv, hg1, hg2, hg3, hg4, hg5, hg6⟩ := Sl.R_open flat27 HR5.out (Nat.lt_of_le_of_lt (Nat.zero_le _) HIL.out)
        injection hv with hv1 _ hv2
        subst hv1
        subst hv2
        have HROW : Aside0 (row27 W5 g (l0.set i ⟨f0, f1, f2, f3, f4⟩) c4) := ⟨⟨cur, hg2, hg5, by rw [HX.out HIL.out, List.set_getElem_self]; exact hg6⟩⟩
        have HG1 := Aside0.mk (show w.heap.size ≤ g ∧ gb < g from ⟨Nat.le_trans HZ3.out hg1, Nat.lt_of_lt_of_le hgb3 hg1⟩)
        have HG4 := Aside0.mk (And.intro hg3 hg4)
        have hne : ¬ gb = g := Nat.ne_of_lt HG1.out.2
        have hne2 : ¬ g = gb := fun e => hne e.symm
        clear hg1 hg2 hg3 hg4 hg5 hg6
        have hix : (i : Int) < (l0.length : Int) := by have := HIL.out; omega
        have hi0 : (0 : Int) ≤ (i : Int) := by omega
        have hx1 : W5.cell? ⟨g, i * 5 + 1, none⟩ = some (.int .i64 f1) := row_cell27 HROW.out HIL.out 1 (by omega) _ rfl
        have hx2 : W5.cell? ⟨g, i * 5 + 2, none⟩ = some (.int .i64 f2) := row_cell27 HROW.out HIL.out 2 (by omega) _ rfl
        have hx3 : W5.cell? ⟨g, i * 5 + 3, none⟩ = some (.int .i64 f3) := row_cell27 HROW.out HIL.out 3 (by omega) _ rfl
        have hx4 : W5.cell? ⟨g, i * 5 + 4, none⟩ = some (.int .i64 f4) := row_cell27 HROW.out HIL.out 4 (by omega) _ rfl
        have hf1 : W5.frozen? ⟨g, i * 5 + 1, none⟩ = false := row_frozen27 HROW.out _
        have hf2 : W5.frozen? ⟨g, i * 5 + 2, none⟩ = false := row_frozen27 HROW.out _
        have hf3 : W5.frozen? ⟨g, i * 5 + 3, none⟩ = false := row_frozen27 HROW.out _
        have hf4 : W5.frozen? ⟨g, i * 5 + 4, none⟩ = false := row_frozen27 HROW.out _
        go_wp2
        go_ret2
        have hr1 := row_set27 HROW.out HIL.out 2 (by omega) (.int .i64 a1_0) ⟨f0, f1, a1_0, f3, f4⟩ rfl
        have hfin := row_R27 hr1 HG1.out.1 (by rw [List.length_set]; exact HG4.out.1) HG4.out.2
        rw [List.length_set] at hfin
        exact ⟨.slice (some ⟨g, 0, none⟩) l0.length c4, by rw [← HE2.out]; rfl, by rw [← HE1.out]; exact hfin, below_set HB5.out HG1.out.1⟩

end Go.Proofs.Ytleongigmjhegaa.P
