-- Written by wip/mk.py of this repo: the kit's print program, with contracts of our own among its functions.
import Derived.Test.YtgijangnoekbjaaPx0
import Derived.Test.YtgijangnoekbjaaPx20
namespace Go.Proofs.Ytgijangnoekbjaa.P
open Go.RowKit Go.Proofs.YtgijangnoekbjaaW.PrintWords Go.Proofs.YtgijangnoekbjaaW.PrintLast Go.Proofs.YtgijangnoekbjaaW.PrintMore
attribute [local go_sem] max2_int min2_int max_two min_two max_three min_three max_four min_four   -- for this text's walks alone
set_option linter.unusedVariables false
set_option linter.unusedSimpArgs false

/-! ### sketch_put: function 44 -/
set_option maxHeartbeats 4000000 in
set_option maxRecDepth 100000 in
/-- slices.Insert of one element: at the end. -/
theorem insE61 (base : Nat) (v : Value) (l : List S61) (x : S61) (vb : Nat) (tv : TypeId) (w : World)
    (hR : Kd.R k61 61 w base (fun _ => True) v l) (hb : base ≤ w.heap.size) (hlen : (l.length + 1) * 16 ≤ 140737488355328)
    (hvb : w.heap[vb]? = some (.cells (enc61 x).toArray tv (0, 0))) :
    Calls Try.prog 50 #[v, .int .i64 l.length, .slice (some ⟨vb, 0, none⟩) 1 1] w fun e w' => ∃ v1, e = .returned v1 ∧ Kd.R k61 61 w' base (fun _ => True) v1 (l ++ [x]) ∧ w.grownBy w' v.ownBlock ∧ (v1.ownBlock = v.ownBlock ∨ ∃ b, v1.ownBlock = some b ∧ w.heap.size ≤ b) := by
  have HR := Aside0.mk hR
  have HV := Aside0.mk (Sl.row_one flat61 x hvb)
  obtain ⟨A, c, rfl⟩ := Kd.R_slice hR
  have hlc : l.length ≤ c := by obtain ⟨A', c', h1, h2, _⟩ := Kd.R_reads hR; injection h1 with _ _ h3; omega
  have huS := Try.underlying30
  clear hR hvb
  obtain ⟨ob, hob⟩ : ∃ ob, ob = (Value.slice A l.length c).ownBlock := ⟨_, rfl⟩
  rw [← hob]
  have HOB := Aside0.mk hob
  clear hob
  by_cases hcl : c = l.length
  case' pos => subst hcl
  all_goals
    go_enter Try.func50, Try.ntmps50
    go_wp2_with (at_builtin; refine Kd.R_append_rows k61 (Rr := k61.K w) (w0 := w) base rfl _ _ _ 61 (.agg #[(.int .i64 0), (.int .i64 0)]) 16 rfl huS (by kernel_rfl) rfl (by decide) (by decide) _ l [x] (some ⟨vb, 0, none⟩) 1 1 (fun _ => True) (fun _ => False) rfl rfl HR.out HV.out (fun x cs hx => by rw [(flat61.k _ _ _).1 hx]; exact (flat61.m _ _ _ _ _).2 rfl) (fun _ hk => hk.elim) (fun _ _ => trivial) (Below.refl _ _) hb hlen ?_; intro v1 w1 hR1 _ hg1 ha1; have HR1 := Aside0.mk hR1; have HG1 : Aside0 (w.grownBy w1 ob) := ⟨HOB.out ▸ hg1⟩; have HA1 : Aside0 (v1.ownBlock = ob ∨ ∃ b, v1.ownBlock = some b ∧ w.heap.size ≤ b) := ⟨HOB.out ▸ ha1⟩; clear hR1 hg1 ha1)
    go_ret
    exact ⟨_, rfl, HR1.out, HG1.out, HA1.out⟩
set_option maxHeartbeats 4000000 in
set_option maxRecDepth 100000 in
/-- .. inside, no room: a new row. -/
theorem insG61 (base : Nat) (g c : Nat) (cur : Array Value) (l : List S61) (i : Nat) (x : S61) (vb : Nat) (tv : TypeId) (w : World)
    (hg : w.heap[g]? = some (.cells cur 61 (0, 0))) (hcur : cur.toList.take (l.length * 2) = l.flatMap enc61) (hcs : cur.size = c * 2) (hb : base ≤ w.heap.size) (hlen : (l.length + 1) * 16 ≤ 140737488355328) (hi : i < l.length) (hlc : l.length ≤ c) (hc : c < l.length + 1)
    (hvb : w.heap[vb]? = some (.cells (enc61 x).toArray tv (0, 0))) :
    Calls Try.prog 50 #[.slice (some ⟨g, 0, none⟩) l.length c, .int .i64 i, .slice (some ⟨vb, 0, none⟩) 1 1] w fun e w' => ∃ v1, e = .returned v1 ∧ Kd.R k61 61 w' base (fun _ => True) v1 (l.take i ++ x :: l.drop i) ∧ Below w.heap.size w w' ∧ (∃ b, v1.ownBlock = some b ∧ w.heap.size ≤ b) := by
  have HG := Aside0.mk hg
  have HV := Aside0.mk hvb
  have HCUR := Aside0.mk hcur
  have HCS := Aside0.mk hcs
  have huS := Try.underlying30
  have hui := Try.underlying3
  obtain ⟨n, hn⟩ : ∃ n, n = l.length := ⟨_, rfl⟩
  rw [← hn] at hlen hi hlc hc ⊢
  have HN := Aside0.mk hn
  clear hg hvb hcur hcs hn
  have hz1 : ((i : Int) == (n : Int)) = false := by rw [beq_eq_false_iff_ne]; omega
  have hz2 : ¬ (c = i) := by omega
  have hz3 : (c : Int) < (n : Int) + 1 := by omega
  have hz3b : decide ((c : Int) < (n : Int) + 1) = true := by rw [decide_eq_true_iff]; omega
  have hin : i ≤ n := by omega
  have hi0 : (0 : Int) ≤ (i : Int) := by omega
  go_enter Try.func50, Try.ntmps50
  have HM1 : Aside0 (Nat.min 1 (n + 1 - i) = 1) := ⟨Nat.min_eq_left (by omega)⟩
  have HXL : Aside0 ((enc61 x).length = 2) := ⟨rfl⟩
  go_wp2_with (first | (at_builtin; refine Sl.wpList_zerosK rfl _ _ 30 3 61 (.agg #[(.int .i64 0), (.int .i64 0)]) 2 16 rfl huS hui (by kernel_rfl) rfl (by decide) (by decide) g i c rfl (n + 1 - i) rfl (by omega) cur 61 HG.out ?c1 (by omega) (by omega) (by omega) (n + 1) (by omega) ?_; (case c1 => have h9 := HCS.out; omega); intro w1 G cur1 HF1 HG1 HB1; obtain ⟨F1, F2, F3, F4⟩ := HF1.out; have HF3 := Aside0.mk F3; have HF4 := Aside0.mk F4; clear HF1 F3 F4; have hz4 : ¬ (G = i) := (by omega); have hz5 : ¬ (G = i + 1) := (by omega)) | ((with_reducible refine gate_builtin (b := .copy) rfl ?_); go_loud (refine Sl.wpList_copyK rfl _ _ 30 30 rfl 61 huS 2 (by kernel_rfl) w.heap.size (i * 2) _ _ ⟨vb, 0, none⟩ 1 1 rfl rfl cur1 61 HG1.out (enc61 x) (by rw [HM1.out]; rfl) (fun j u hu => by rw [add_plain, blk_cell (blk_below HV.out HB1.out)]; simpa using hu) (by rw [HXL.out, HF3.out]; omega) (flat61.one w x) ?_; intro w2 HG2 HGr2)))
  have HB12 : Aside0 (w2.heap[g]? = some (.cells cur 61 (0, 0))) := ⟨(HGr2.out.block g (by have := blk_lt (blk_below HG.out HB1.out); exact this) (by have := blk_lt HG.out; simp; omega)).trans (blk_below HG.out HB1.out)⟩
  have HDL : Aside0 (((l.drop i).flatMap enc61).length = (n - i) * 2) := ⟨by rw [flat61.flen w, List.length_drop, HN.out]; rfl⟩
  have HSRC : Aside0 (∀ j u, ((l.drop i).flatMap enc61)[j]? = some u → w2.cell? ((⟨g, i * 2, none⟩ : Addr).add j) = some u) := ⟨fun j u hu => by
    rw [Addr.add_lit, blk_cell HB12.out]
    rw [Sl.flat_drop flat61 w, ← HCUR.out, List.drop_take, List.getElem?_take] at hu
    split at hu
    · rw [List.getElem?_drop] at hu
      rw [← Array.getElem?_toList]; exact hu
    · cases hu⟩
  have hw1 : IntKind.i64.wrap ((i : Int) + 1) = (i : Int) + 1 := by rw [IntKind.wrap_i64]; omega
  have hb1 : (0 : Int) ≤ (i : Int) + 1 := by omega
  have htn : ((i : Int) + 1).toNat = i + 1 := by omega
  have hb3 : (i : Int) ≤ (n : Int) := by omega
  have HM2 : Aside0 (Nat.min (n - i) (n - i) = n - i) := ⟨Nat.min_self _⟩
  have HFIT : Aside0 ((i + 1) * 2 + ((l.drop i).flatMap enc61).length ≤ (cur1.toList.take (i * 2) ++ enc61 x ++ cur1.toList.drop (i * 2 + (enc61 x).length)).toArray.size) := ⟨by
    rw [List.size_toArray, Sl.len_splice _ _ _ (by rw [HXL.out, Array.length_toList, HF3.out]; omega), HDL.out, Array.length_toList, HF3.out]; omega⟩
  go_region_law (refine Sl.step_copyK (w := w2.drew) rfl (.tmp 50) (.tmp 53) 30 30 rfl 61 huS 2 (by kernel_rfl) w.heap.size ((i + 1) * 2) (n - i) (G - (i + 1)) ⟨g, i * 2, none⟩ (n - i) (c - i) (by simp [Act.eval, Act.put]) (by simp [Act.eval, Act.put]) (cur1.toList.take (i * 2) ++ enc61 x ++ cur1.toList.drop (i * 2 + (enc61 x).length)).toArray 61 HG2.out ((l.drop i).flatMap enc61) (by rw [HDL.out, HM2.out]) HSRC.out HFIT.out (flat61.fone w _) ?_; intro w3 HG3 HGr3)
  clear hw1 hb1 htn hb3 HFIT HSRC
  go_wp2
  go_ret
  have hB2 : Below w.heap.size w w2 := HB1.out.grown HGr2.out HB1.out.size (fun k hk => by injection hk with hk; omega)
  have hB3 : Below w.heap.size w w3 := (below_drew hB2).grown HGr3.out hB2.size (fun k hk => by injection hk with hk; omega)
  refine ⟨_, rfl, ?_, hB3, ⟨w.heap.size, rfl, Nat.le_refl _⟩⟩
  have hil : i ≤ l.length := by rw [← HN.out]; exact hin
  have h4 : cur1.toList.take (i * k61.sz) = (l.take i).flatMap enc61 := by
    rw [Sl.flat_take flat61 w, ← HCUR.out, List.take_take, Nat.min_eq_left (by rw [← HN.out]; exact Nat.mul_le_mul_right _ hin)]
    exact HF4.out
  obtain ⟨h5, h6⟩ := Sl.ins_new flat61 w cur1.toList l i x hil h4 (by have h9 : cur1.toList.length = G * 2 := Array.length_toList.trans HF3.out; rw [h9, ← HN.out]; exact Nat.mul_le_mul_right _ F1)
  have h7 := HG3.out
  have h8 := Sl.flat_ins flat61 w l i x hil
  have := Sl.R_block (ok := fun _ => True) (cap := G) (xs := l.take i ++ x :: l.drop i) flat61 hb h7 trivial (by rw [h8, ← HN.out]; exact F1) F2 (by rw [List.size_toArray]; refine Eq.trans h6 ?_; exact (Array.length_toList.trans HF3.out)) (by rw [h8]; exact h5)
  rw [h8, ← HN.out] at this
  exact this
set_option maxHeartbeats 4000000 in
set_option maxRecDepth 100000 in
/-- .. inside, there is room: in place. -/
theorem insR61 (base : Nat) (g c : Nat) (cur : Array Value) (l : List S61) (i : Nat) (x : S61) (vb : Nat) (tv : TypeId) (w : World)
    (hg : w.heap[g]? = some (.cells cur 61 (0, 0))) (hcur : cur.toList.take (l.length * 2) = l.flatMap enc61) (hcs : cur.size = c * 2) (hbg : base ≤ g) (hi : i < l.length) (hlc : l.length + 1 ≤ c) (hc63 : c ≤ 9223372036854775807)
    (hvb : w.heap[vb]? = some (.cells (enc61 x).toArray tv (0, 0))) (hne : vb ≠ g) :
    Calls Try.prog 50 #[.slice (some ⟨g, 0, none⟩) l.length c, .int .i64 i, .slice (some ⟨vb, 0, none⟩) 1 1] w fun e w' => ∃ v1, e = .returned v1 ∧ Kd.R k61 61 w' base (fun _ => True) v1 (l.take i ++ x :: l.drop i) ∧ w.grownBy w' (some g) ∧ v1.ownBlock = some g := by
  have HG := Aside0.mk hg
  have HV := Aside0.mk hvb
  have HCUR := Aside0.mk hcur
  have HCS := Aside0.mk hcs
  have huS := Try.underlying30
  have hui := Try.underlying3
  have hov : ∀ lb cb, (callFunc 54 #[.slice (some ⟨vb, 0, none⟩) 1 1, .slice (some ⟨g, (i + 1) * 2, none⟩) lb cb]).run Try.prog w = .ok (.value (.bool false)) w := fun lb cb => by
    rw [run_callFunc_extern Try.func54 (by kernel_rfl) (by kernel_rfl) (by kernel_rfl) (e := Extern.SlicesOverlaps.overlaps #[30, 30] #[4]) (by kernel_rfl),
      Lib.run_overlaps_apart w 30 4 61 huS 2 Try.sizeOf61 ⟨vb, 0, none⟩ ⟨g, (i + 1) * 2, none⟩ 1 1 lb cb hne tv 61 2 cur.size (by simp [World.shape?, hvb]; rfl) (by simp [World.shape?, hg]) (by rw [hcs]; omega) (blk_frozen hvb 0) (blk_frozen hvb _)]
    rfl
  obtain ⟨n, hn⟩ : ∃ n, n = l.length := ⟨_, rfl⟩
  rw [← hn] at hi hlc ⊢
  have HN := Aside0.mk hn
  clear hg hvb hcur hcs hn
  have hz1 : ((i : Int) == (n : Int)) = false := by rw [beq_eq_false_iff_ne]; omega
  have hz2 : ¬ (c = i) := by omega
  have hz3 : ¬ ((c : Int) < (n : Int) + 1) := by omega
  have hz3b : decide ((c : Int) < (n : Int) + 1) = false := by rw [decide_eq_false_iff_not]; omega
  have hin : i ≤ n := by omega
  have hi0 : (0 : Int) ≤ (i : Int) := by omega
  have hz4 : ¬ (c = i + 1) := by omega
  have HM1 : Aside0 (Nat.min 1 (n + 1 - i) = 1) := ⟨Nat.min_eq_left (by omega)⟩
  have HXL : Aside0 ((enc61 x).length = 2) := ⟨rfl⟩
  go_enter Try.func50, Try.ntmps50
  go_wp2_with (simp only [hov])
  have HDL : Aside0 (((l.drop i).flatMap enc61).length = (n - i) * 2) := ⟨by rw [flat61.flen w, List.length_drop, HN.out]; rfl⟩
  have HSRC : Aside0 (∀ j u, ((l.drop i).flatMap enc61)[j]? = some u → w.cell? ((⟨g, i * 2, none⟩ : Addr).add j) = some u) := ⟨fun j u hu => by
    rw [Addr.add_lit, blk_cell HG.out]
    rw [Sl.flat_drop flat61 w, ← HCUR.out, List.drop_take, List.getElem?_take] at hu
    split at hu
    · rw [List.getElem?_drop] at hu
      rw [← Array.getElem?_toList]; exact hu
    · cases hu⟩
  have HM2 : Aside0 (Nat.min (n + 1 - i) (n - i) = n - i) := ⟨Nat.min_eq_right (by omega)⟩
  have HFIT : Aside0 ((i + 1) * 2 + ((l.drop i).flatMap enc61).length ≤ cur.size) := ⟨by rw [HDL.out, HCS.out]; omega⟩
  have hw1 : IntKind.i64.wrap ((i : Int) + 1) = (i : Int) + 1 := by rw [IntKind.wrap_i64]; omega
  have hb1 : (0 : Int) ≤ (i : Int) + 1 := by omega
  have htn : ((i : Int) + 1).toNat = i + 1 := by omega
  have hb3 : (i : Int) ≤ (n : Int) := by omega
  have hb4 : (i : Int) ≤ (n : Int) + 1 := by omega
  go_region_law (refine Sl.step_copyK (w := w.drew) rfl (.tmp 73) (.tmp 76) 30 30 rfl 61 huS 2 (by kernel_rfl) g ((i + 1) * 2) (n - i) (c - (i + 1)) ⟨g, i * 2, none⟩ (n + 1 - i) (c - i) (by simp [Act.eval, Act.put]) (by simp [Act.eval, Act.put]) cur 61 HG.out ((l.drop i).flatMap enc61) (by rw [HDL.out, HM2.out]) HSRC.out HFIT.out (flat61.fone w _) ?_; intro w1 HG1 HGr1)
  clear hw1 hb1 htn hb3 HSRC hov
  have HV1 : Aside0 (w1.heap[vb]? = some (.cells (enc61 x).toArray tv (0, 0))) := ⟨(HGr1.out.block vb (blk_lt HV.out) (fun e => hne (Option.some.inj e))).trans HV.out⟩
  have HFIT2 : Aside0 (i * 2 + (enc61 x).length ≤ (cur.toList.take ((i + 1) * 2) ++ (l.drop i).flatMap enc61 ++ cur.toList.drop ((i + 1) * 2 + ((l.drop i).flatMap enc61).length)).toArray.size) := ⟨by
    rw [List.size_toArray, Sl.len_splice _ _ _ (by have := HFIT.out; rwa [Array.length_toList]), HXL.out, Array.length_toList, HCS.out]; omega⟩
  go_wp2_with ((with_reducible refine gate_builtin (b := .copy) rfl ?_); go_loud (refine Sl.wpList_copyK rfl _ _ 30 30 rfl 61 huS 2 (by kernel_rfl) g (i * 2) _ _ ⟨vb, 0, none⟩ 1 1 rfl rfl _ 61 HG1.out (enc61 x) (by rw [HM1.out]; rfl) (fun j u hu => by rw [add_plain, blk_cell HV1.out]; simpa using hu) HFIT2.out (flat61.one w x) ?_; intro w2 HG2 HGr2))
  go_ret
  have hgr : w.grownBy w2 (some g) := ⟨HGr2.out.os.trans HGr1.out.os, HGr2.out.tape.trans HGr1.out.tape, HGr2.out.output.trans HGr1.out.output, Nat.le_trans HGr1.out.size HGr2.out.size, fun k hk hne => (HGr2.out.block k (Nat.lt_of_lt_of_le hk HGr1.out.size) hne).trans (HGr1.out.block k hk hne)⟩
  refine ⟨_, rfl, ?_, hgr, rfl⟩
  have hil : i ≤ l.length := by rw [← HN.out]; exact hin
  have h4 : cur.toList.take (i * k61.sz) = (l.take i).flatMap enc61 := by
    rw [Sl.flat_take flat61 w, ← HCUR.out, List.take_take, Nat.min_eq_left (by rw [← HN.out]; exact Nat.mul_le_mul_right _ hin)]
  have h9 : cur.toList.length = c * 2 := Array.length_toList.trans HCS.out
  obtain ⟨h5, h6⟩ := Sl.ins_old flat61 w cur.toList l i x hil h4 (by rw [h9, ← HN.out]; exact Nat.mul_le_mul_right _ hlc)
  have h7 := HG2.out
  have h8 := Sl.flat_ins flat61 w l i x hil
  have := Sl.R_block (ok := fun _ => True) (cap := c) (xs := l.take i ++ x :: l.drop i) flat61 hbg h7 trivial (by rw [h8, ← HN.out]; exact hlc) hc63 (by rw [List.size_toArray]; refine Eq.trans h6 ?_; exact h9) (by rw [h8]; exact h5)
  rw [h8, ← HN.out] at this
  exact this
/-- slices.Insert of one element, whatever the room. -/
theorem ins61 (base : Nat) (v : Value) (l : List S61) (i : Nat) (x : S61) (vb : Nat) (tv : TypeId) (w : World)
    (hR : Kd.R k61 61 w base (fun _ => True) v l) (hb : base ≤ w.heap.size) (hi : i ≤ l.length) (hlen : (l.length + 1) * 16 ≤ 140737488355328)
    (hvb : w.heap[vb]? = some (.cells (enc61 x).toArray tv (0, 0))) (hne : v.ownBlock ≠ some vb) :
    Calls Try.prog 50 #[v, .int .i64 i, .slice (some ⟨vb, 0, none⟩) 1 1] w fun e w' => ∃ v1, e = .returned v1 ∧ Kd.R k61 61 w' base (fun _ => True) v1 (l.take i ++ x :: l.drop i) ∧ w.grownBy w' v.ownBlock ∧ (v1.ownBlock = v.ownBlock ∨ ∃ b, v1.ownBlock = some b ∧ w.heap.size ≤ b) := by
  rcases Nat.lt_or_ge i l.length with h | h
  · obtain ⟨g, c, cur, rfl, hg1, hg2, hg3, hg4, hg5, hg6⟩ := Sl.R_open flat61 hR (by omega)
    rcases Nat.lt_or_ge c (l.length + 1) with hc | hc
    · refine (insG61 base g c cur l i x vb tv w hg2 hg6 hg5 hb hlen h hg3 hc hvb).mono ?_
      rintro e w' ⟨v1, h1, h2, h3, h4⟩
      exact ⟨v1, h1, h2, grown_of_below h3 _, .inr h4⟩
    · refine (insR61 base g c cur l i x vb tv w hg2 hg6 hg5 hg1 h hc hg4 hvb (fun e => hne (by simp [Value.ownBlock, e]))).mono ?_
      rintro e w' ⟨v1, h1, h2, h3, h4⟩
      exact ⟨v1, h1, h2, by simpa [Value.ownBlock] using h3, .inl (by rw [h4]; rfl)⟩
  · obtain rfl : i = l.length := by omega
    rw [List.take_length, List.drop_length]
    exact insE61 base v l x vb tv w hR hb hlen hvb
set_option maxHeartbeats 4000000 in
set_option maxRecDepth 100000 in
theorem cmp61 (f0 f1 t : Int) (w : World) (h1 : -9223372036854775808 ≤ f0 - t) (h2 : f0 - t ≤ 9223372036854775807) :
    Calls Try.prog 53 #[.agg #[.int .i64 f0, .int .i64 f1], .int .i64 t] w fun e w' => e = .returned (.int .i64 (f0 - t)) ∧ Below w.heap.size w w' := by
  go_enter Try.func53, Try.ntmps53
  go_wp2
  go_ret
  exact ⟨rfl, below_alloc (Below.refl _ _) _⟩
def lt061 (l : List S61) (t : Int) : Nat := (l.takeWhile fun x => decide (x.f0 < t)).length
theorem lt0_is61 (t : Int) : ∀ (l : List S61) (i : Nat), i ≤ l.length → (∀ q : Nat, q < i → (rd_T61 l (q : Int)).f0 < t) → (i < l.length → t ≤ (rd_T61 l (i : Int)).f0) → lt061 l t = i
  | [], i, hi, _, _ => by
    have : i = 0 := by simpa using hi
    subst this; rfl
  | x :: l, i, hi, h1, h2 => by
    unfold lt061
    cases i with
    | zero =>
      have := h2 (by simp)
      simp only [rd_T61, Int.toNat_natCast, List.getD_cons_zero] at this
      rw [List.takeWhile_cons, if_neg (by simp; omega)]; rfl
    | succ i =>
      have h0 := h1 0 (by omega)
      simp only [rd_T61, Int.toNat_natCast, List.getD_cons_zero] at h0
      have ih := lt0_is61 t l i (by simpa using hi) (fun q hq => by have := h1 (q + 1) (by omega); simpa [rd_T61] using this) (fun hlt => by have := h2 (by simpa using hlt); simpa [rd_T61] using this)
      rw [List.takeWhile_cons, if_pos (by simpa using h0), List.length_cons]
      unfold lt061 at ih
      rw [ih]
theorem sorted_le61 {l : List S61} (hs : l.Pairwise fun a b => a.f0 < b.f0) {p q : Nat} (hpq : p ≤ q) (hq : q < l.length) : (rd_T61 l (p : Int)).f0 ≤ (rd_T61 l (q : Int)).f0 := by
  rcases Nat.lt_or_ge p q with h | h
  · have := List.pairwise_iff_getElem.1 hs p q (by omega) hq h
    simp only [rd_T61, Int.toNat_natCast, List.getD_eq_getElem?_getD, List.getElem?_eq_getElem hq, List.getElem?_eq_getElem (show p < l.length by omega), Option.getD_some]
    omega
  · obtain rfl : p = q := by omega
    exact Int.le_refl _
set_option maxHeartbeats 8000000 in
set_option maxRecDepth 100000 in
theorem bs61 (A0 : Option Addr) (c0 : Nat) (l0 : List S61) (t : Int) (w : World) (hr0 : Kd.C k61 w A0 l0.length l0) (hc0 : l0.length ≤ c0) (hs : l0.Pairwise fun a b => a.f0 < b.f0)
    (hbd : ∀ x ∈ l0, -9223372036854775808 ≤ x.f0 - t ∧ x.f0 - t ≤ 9223372036854775807) (hl : l0.length ≤ 4611686018427387903) :
    Calls Try.prog 52 #[.slice A0 l0.length c0, .int .i64 t, .func (.func 53) #[] #[]] w fun e w' => e = .returned (.tuple #[.int .i64 (lt061 l0 t), .bool (decide (lt061 l0 t < l0.length ∧ (rd_T61 l0 (lt061 l0 t : Int)).f0 = t))]) ∧ Below w.heap.size w w' := by
  have HC := Aside0.mk hr0
  have HS := Aside0.mk hs
  have HBD : Aside0 (∀ q : Nat, q < l0.length → -9223372036854775808 ≤ (rd_T61 l0 (q : Int)).f0 - t ∧ (rd_T61 l0 (q : Int)).f0 - t ≤ 9223372036854775807) := ⟨fun q hq => hbd _ (by
    simp only [rd_T61, Int.toNat_natCast, List.getD_eq_getElem?_getD, List.getElem?_eq_getElem hq, Option.getD_some]; exact List.getElem_mem hq)⟩
  have eg : ∀ args w, (callFunc 53 args).run Try.prog w = .ok (.enter 53 args) w := fun args w => enters_ Try.func53 (by kernel_rfl) (by kernel_rfl) args w
  clear hr0 hs hbd
  go_enter Try.func52, Try.ntmps52
  go_wp2
  go_loopw [9, 10] (fun v9 v10 wr => ∃ i j : Nat, i ≤ j ∧ j ≤ l0.length ∧ v9 = .int .i64 i ∧ v10 = .int .i64 j ∧ Aside0 (Below w.heap.size w wr) ∧ Aside0 (∀ q : Nat, q < i → (rd_T61 l0 (q : Int)).f0 < t) ∧ Aside0 (∀ q : Nat, j ≤ q → q < l0.length → t ≤ (rd_T61 l0 (q : Int)).f0)) (fun v9 v10 _ => (intOf v10).toNat - (intOf v9).toNat)
  case atStart =>
    exact ⟨0, l0.length, Nat.zero_le _, Nat.le_refl _, rfl, rfl, ⟨Below.refl _ _⟩, ⟨fun q hq => absurd hq (Nat.not_lt_zero _)⟩, ⟨fun q h1 h2 => by omega⟩⟩
  case round =>
    obtain ⟨i, j, hij, hj, rfl, rfl, HB, HP, HQ⟩ := hrel
    by_cases hlt : i < j
    · have hji : (i : Int) < (j : Int) := by omega
      obtain ⟨m, hm⟩ : ∃ m, m = (i + j) / 2 := ⟨_, rfl⟩
      have hm1 : i ≤ m := by omega
      have hm2 : m < j := by omega
      have hmm : ((i : Int) + (j : Int)) / 2 = (m : Int) := by omega
      have hml : (m : Int) < (l0.length : Int) := by omega
      have hm0 : 0 ≤ (m : Int) := by omega
      clear hm
      obtain ⟨ad, eA, hx0, hx1⟩ := at_T61 HC.out (m : Int) hm0 hml
      cases eA
      replace hx0 := (HB.out.cell (World.block_lt_of_cell? w _ hx0)).trans hx0; replace hx1 := (HB.out.cell (World.block_lt_of_cell? w _ hx1)).trans hx1
      rw [Int.toNat_natCast] at hx0 hx1
      obtain ⟨hb1, hb2⟩ := HBD.out m (by omega)
      obtain ⟨x, hx⟩ : ∃ x, x = rd_T61 l0 (m : Int) := ⟨_, rfl⟩
      rw [← hx] at hx0 hx1 hb1 hb2
      have HX := Aside0.mk hx
      clear hx
      obtain ⟨f0, f1⟩ := x
      dsimp only at hx0 hx1 hb1 hb2
      have HCMP := Aside0.mk (fun w => cmp61 f0 f1 t w hb1 hb2)
      clear hb1 hb2
      by_cases hq : f0 < t
      · have hq1 : f0 - t < 0 := by omega
        go_wp2_with (fail)
        refine (HCMP.out _).mono ?_
        rintro e w1 ⟨rfl, hd⟩
        have HD := Aside0.mk hd
        clear hd HCMP
        go_wp2
        go_roundw
        case rel =>
          refine ⟨m + 1, j, by omega, hj, by go_num, rfl, ⟨below_step HB.out HD.out⟩, ⟨fun q hq2 => ?_⟩, HQ⟩
          have h1 := sorted_le61 HS.out (show q ≤ m by omega) (by omega)
          rw [← HX.out] at h1
          exact Int.lt_of_le_of_lt h1 hq
        case measure => simp [intOf]; omega
      · have hq1 : 0 ≤ f0 - t := by omega
        go_wp2_with (fail)
        refine (HCMP.out _).mono ?_
        rintro e w1 ⟨rfl, hd⟩
        have HD := Aside0.mk hd
        clear hd HCMP
        go_wp2
        go_roundw
        case rel =>
          refine ⟨i, m, hm1, by omega, rfl, rfl, ⟨below_step HB.out HD.out⟩, HP, ⟨fun q hq2 hq3 => ?_⟩⟩
          have h1 := sorted_le61 HS.out hq2 hq3
          rw [← HX.out] at h1
          exact Int.le_trans (by omega) h1
        case measure => simp [intOf]; omega
    · obtain rfl : i = j := by omega
      have hlt0 := lt0_is61 t l0 i hj HP.out (fun h => HQ.out i (Nat.le_refl _) h)
      have HL0 := Aside0.mk hlt0
      clear hlt0
      have hji : ¬ ((i : Int) < (i : Int)) := by omega
      by_cases hin : i < l0.length
      · have hml : (i : Int) < (l0.length : Int) := by omega
        have hm0 : 0 ≤ (i : Int) := by omega
        obtain ⟨ad, eA, hx0, hx1⟩ := at_T61 HC.out (i : Int) hm0 hml
        cases eA
        replace hx0 := (HB.out.cell (World.block_lt_of_cell? w _ hx0)).trans hx0; replace hx1 := (HB.out.cell (World.block_lt_of_cell? w _ hx1)).trans hx1
        rw [Int.toNat_natCast] at hx0 hx1
        obtain ⟨hb1, hb2⟩ := HBD.out i (by omega)
        obtain ⟨x, hx⟩ : ∃ x, x = rd_T61 l0 (i : Int) := ⟨_, rfl⟩
        rw [← hx] at hx0 hx1 hb1 hb2
        have HX := Aside0.mk hx
        clear hx
        obtain ⟨f0, f1⟩ := x
        dsimp only at hx0 hx1 hb1 hb2
        have HCMP := Aside0.mk (fun w => cmp61 f0 f1 t w hb1 hb2)
        clear hb1 hb2
        go_wp2_with (fail)
        refine (HCMP.out _).mono ?_
        rintro e w1 ⟨rfl, hd⟩
        have HD := Aside0.mk hd
        clear hd HCMP
        go_wp2
        go_ret2
        refine ⟨?_, below_step HB.out HD.out⟩
        rw [HL0.out, ← HX.out]
        have h9 : (f0 - t == 0) = decide (i < l0.length ∧ f0 = t) := by
          rw [Bool.eq_iff_iff, beq_iff_eq, decide_eq_true_iff]; omega
        show Ending.returned (.tuple #[.int .i64 (i : Int), .bool (f0 - t == 0)]) = _
        rw [h9]
      · go_wp2
        go_ret2
        refine ⟨?_, HB.out⟩
        have h9 : decide (lt061 l0 t < l0.length) = false := decide_eq_false (fun h => hin (HL0.out ▸ h))
        have e1 : (lt061 l0 t : Int) = (i : Int) := by rw [HL0.out]
        refine Eq.trans (b := Ending.returned (.tuple #[.int .i64 (lt061 l0 t : Int), .bool false])) ?_ (by rw [h9, Bool.false_and])
        rw [e1]
        rfl
set_option maxHeartbeats 4000000 in
set_option maxRecDepth 100000 in
theorem find_bs61 (A0 : Option Addr) (c0 : Nat) (l0 : List S61) (t : Int) (w : World) (hr0 : Kd.C k61 w A0 l0.length l0) (hc0 : l0.length ≤ c0) (hs : l0.Pairwise fun a b => a.f0 < b.f0)
    (hbd : ∀ x ∈ l0, -9223372036854775808 ≤ x.f0 - t ∧ x.f0 - t ≤ 9223372036854775807) (hl : l0.length ≤ 4611686018427387903) :
    Calls Try.prog 49 #[.slice A0 l0.length c0, .int .i64 t] w fun e w' => e = .returned (.tuple #[.int .i64 (lt061 l0 t), .bool (decide (lt061 l0 t < l0.length ∧ (rd_T61 l0 (lt061 l0 t : Int)).f0 = t))]) ∧ Below w.heap.size w w' := by
  have HBS := Aside0.mk (fun w hr => bs61 A0 c0 l0 t w hr hc0 hs hbd hl)
  have HR := Aside0.mk hr0
  obtain ⟨i, hi⟩ : ∃ i, i = lt061 l0 t := ⟨_, rfl⟩
  rw [← hi] at HBS ⊢
  obtain ⟨b, hb⟩ : ∃ b, b = decide (i < l0.length ∧ (rd_T61 l0 (i : Int)).f0 = t) := ⟨_, rfl⟩
  rw [← hb] at HBS ⊢
  clear hr0 hc0 hs hbd hl hi hb
  go_enter Try.func49, Try.ntmps49
  go_wp2_with (fail)
  refine (HBS.out _ HR.out).mono ?_
  rintro e w1 ⟨rfl, hb⟩
  have HB := Aside0.mk hb
  clear hb
  go_wp2
  go_ret2
  exact ⟨rfl, HB.out⟩
theorem lt0_le61 (l : List S61) (t : Int) : lt061 l t ≤ l.length := by
  unfold lt061
  exact (List.takeWhile_prefix _).length_le
/-- A row that is known whole. -/
def row61 (W : World) (g : Nat) (l : List S61) (c : Nat) : Prop := ∃ cur : Array Value, W.heap[g]? = some (.cells cur 61 (0, 0)) ∧ cur.size = c * 2 ∧ cur.toList.take (l.length * 2) = l.flatMap enc61
theorem row_frozen61 {W : World} {g : Nat} {l : List S61} {c : Nat} (h : row61 W g l c) (p : Nat) : W.frozen? ⟨g, p, none⟩ = false := by
  obtain ⟨cur, h1, _, _⟩ := h
  exact blk_frozen h1 p
theorem row_cell61 {W : World} {g : Nat} {l : List S61} {c i : Nat} {x : S61} (h : row61 W g (l.set i x) c) (hi : i < l.length) (j : Nat) (hj : j < 2) (u : Value) (hu : (enc61 x)[j]? = some u) : W.cell? ⟨g, i * 2 + j, none⟩ = some u := by
  obtain ⟨cur, h1, h2, h3⟩ := h
  rw [blk_cell h1, ← Array.getElem?_toList]
  have h4 := congrArg (fun z => z[i * 2 + j]?) h3
  rw [List.length_set, List.getElem?_take, if_pos (by omega), Sl.flat_get (K := 2) (fun _ => rfl) (l.set i x) i j (by rw [List.length_set]; exact hi) hj, List.getElem_set_self] at h4
  rw [h4]; exact hu
theorem row_set61 {W : World} {g : Nat} {l : List S61} {c i : Nat} {x : S61} (h : row61 W g (l.set i x) c) (hi : i < l.length) (j : Nat) (hj : j < 2) (u : Value) (y : S61) (hy : enc61 y = (enc61 x).set j u) : row61 (W.setCell ⟨g, i * 2 + j, none⟩ u) g (l.set i y) c := by
  obtain ⟨cur, h1, h2, h3⟩ := h
  obtain ⟨b1, s1, t1⟩ := Sl.block_set h1 (i * 2 + j) (l.length * 2) u
  refine ⟨_, b1, s1.trans h2, ?_⟩
  rw [List.length_set] at h3 ⊢
  have q := Sl.set_cell (enc := enc61) (K := 2) (fun _ => rfl) u j hj y (l.set i x) i (by rw [List.length_set]; exact hi) (by rw [List.getElem_set_self]; exact hy)
  rw [List.set_set] at q
  exact t1.trans ((congrArg (fun z => z.set (i * 2 + j) u) h3).trans q)
theorem row_R61 {W : World} {g : Nat} {l : List S61} {c base : Nat} (h : row61 W g l c) (hb : base ≤ g) (h1 : l.length ≤ c) (h2 : c ≤ 9223372036854775807) : Kd.R k61 61 W base (fun _ => True) (.slice (some ⟨g, 0, none⟩) l.length c) l := by
  obtain ⟨cur, h3, h4, h5⟩ := h
  exact Sl.R_block flat61 hb h3 trivial h1 h2 h4 h5
theorem row_drawn61 {W : World} {g : Nat} {l : List S61} {c : Nat} (h : row61 W g l c) (m : Nat) : row61 (W.drewN m) g l c := by
  obtain ⟨cur, h3, h4, h5⟩ := h
  exact ⟨cur, blk_drewN h3 m, h4, h5⟩
def sketch_put.v (l : List S61) (x0 x1 : Int) : List S61 :=
  if lt061 l x0 < l.length ∧ (rd_T61 l (lt061 l x0 : Int)).f0 = x0 then l.set (lt061 l x0) ⟨x0, (rd_T61 l (lt061 l x0 : Int)).f1 + x1⟩
  else l.take (lt061 l x0) ++ ⟨x0, x1⟩ :: l.drop (lt061 l x0)
def sketch_put.okB (l : List S61) (x0 x1 : Int) : Bool :=
  decide (l.Pairwise fun a b => a.f0 < b.f0) && l.all (fun y => decide (-1024 ≤ y.f0 ∧ y.f0 ≤ 1024 ∧ 0 ≤ y.f1 ∧ y.f1 ≤ 1099511627776)) && decide (-1024 ≤ x0 ∧ x0 ≤ 1024 ∧ 0 ≤ x1 ∧ x1 ≤ 1099511627776) && decide (l.length ≤ 1000000)
def sketch_put.f (l : List S61) (x0 x1 : Int) : Option (List S61) := if sketch_put.okB l x0 x1 = true then some (sketch_put.v l x0 x1) else none
theorem grown_step61 {w w1 w2 : World} {row : Option Nat} (h1 : w.grownBy w1 row) (h2 : w1.grownBy w2 row) : w.grownBy w2 row :=
  ⟨h2.os.trans h1.os, h2.tape.trans h1.tape, h2.output.trans h1.output, Nat.le_trans h1.size h2.size, fun k hk hne => (h2.block k (Nat.lt_of_lt_of_le hk h1.size) hne).trans (h1.block k hk hne)⟩
theorem grown_set61 (w : World) (g i : Nat) (u : Value) : w.grownBy (w.setCell ⟨g, i, none⟩ u).drew (some g) :=
  ⟨rfl, rfl, rfl, by simp, fun k _ hne => Below.heap_setCell w _ u k (fun e => hne (by rw [e]))⟩
set_option maxHeartbeats 8000000 in
set_option maxRecDepth 100000 in
theorem sketch_put.own (base : Nat) (v : Value) (l : List S61) (x0 x1 : Int) (r : List S61) (w : World) (hR : Kd.R k61 61 w base (fun _ => True) v l) (hb : base ≤ w.heap.size) (h : sketch_put.f l x0 x1 = some r) :
    Calls Try.prog 44 #[v, .agg #[.int .i64 x0, .int .i64 x1]] w fun e w' => ∃ v1, e = .returned v1 ∧ Kd.R k61 61 w' base (fun _ => True) v1 r ∧ Below base w w' ∧ w.grownBy w' v.ownBlock ∧ (v1.ownBlock = v.ownBlock ∨ ∃ b, v1.ownBlock = some b ∧ w.heap.size ≤ b) := by
  have HR := Aside0.mk hR
  have HB0 := Aside0.mk hb
  clear hR hb
  unfold sketch_put.f at h
  split at h
  case isFalse => cases h
  rename_i hok
  injection h with h
  simp only [sketch_put.okB, Bool.and_eq_true, decide_eq_true_eq, List.all_eq_true] at hok
  obtain ⟨⟨⟨k1, k2⟩, k3⟩, k4⟩ := hok
  have K2 := Aside0.mk k2
  have K1 := Aside0.mk k1
  have K3 := Aside0.mk k3
  have K4 := Aside0.mk k4
  have HBS := Aside0.mk (fun (A : Option Addr) (c : Nat) (w : World) hr hc => find_bs61 A c l x0 w hr hc k1 (fun x hx => by have := k2 x hx; omega) (by omega))
  clear k1 k2 k3 k4
  have hle := lt0_le61 l x0
  unfold sketch_put.v at h
  obtain ⟨i, hi⟩ : ∃ i, i = lt061 l x0 := ⟨_, rfl⟩
  rw [← hi] at h HBS hle
  clear hi
  have HLE := Aside0.mk hle
  clear hle
  by_cases hf : i < l.length ∧ (rd_T61 l (i : Int)).f0 = x0
  case neg =>
    rw [if_neg hf] at h
    have HF : Aside0 (decide (i < l.length ∧ (rd_T61 l (i : Int)).f0 = x0) = false) := ⟨decide_eq_false hf⟩
    have H := Aside0.mk h
    clear h hf
    go_enter Try.func44, Try.ntmps44
    go_wp2_with (first | ((with_reducible refine gate_dst (N := 3) rfl ?_); refine box_event ?hg (N := 3) ?hd (cs := #[.int .i64 x0, .int .i64 x1]) (t := 61) ?hr ?_; (case hd => rfl); (case hg => rfl); (case hr => first | (go_simp; done) | (go_simp; rfl)); intro gb hg w1 hbox hb; have HB1 := Aside0.mk hb; have BK := Aside0.mk hbox; have GW : w.heap.size ≤ gb := (by rw [hg]; exact Nat.le_refl _); clear hb hbox hg; have hc0 : w1.cell? ⟨gb, 0, none⟩ = some (.int .i64 x0) := (blk_cell BK.out 0).trans rfl; have hc1 : w1.cell? ⟨gb, 1, none⟩ = some (.int .i64 x1) := (blk_cell BK.out 1).trans rfl) | (go_at_call 49; fail))
    have HR1 := Aside0.mk (Kd.R_below HR.out HB1.out)
    obtain ⟨A1, c1, hv1, hlc1, hC1⟩ := Kd.R_reads HR1.out
    subst hv1
    refine (HBS.out _ _ _ hC1 hlc1).mono ?_
    rintro e w2 ⟨rfl, hb⟩
    have HB2 := Aside0.mk (below_step HB1.out hb)
    have BK2 := Aside0.mk (blk_below BK.out hb)
    have HR2 := Aside0.mk (Kd.R_below HR1.out hb)
    clear hb hc0 hc1 hC1 hlc1 HR1 BK
    have hc0 : w2.cell? ⟨gb, 0, none⟩ = some (.int .i64 x0) := (blk_cell BK2.out 0).trans rfl
    have hc1 : w2.cell? ⟨gb, 1, none⟩ = some (.int .i64 x1) := (blk_cell BK2.out 1).trans rfl
    rw [HF.out]
    go_wp2_with (fail)
    have hlt2 : ∀ k, (Value.slice A1 l.length c1).ownBlock = some k → k < w2.heap.size := fun k hk => own_lt (Kd.R_own HR2.out).choose_spec k hk
    have hge2 : ∀ k, (Value.slice A1 l.length c1).ownBlock = some k → base ≤ k := fun k hk => own_base (Kd.R_own HR2.out).choose_spec k hk
    have hz2 : base ≤ w2.heap.size := Nat.le_trans HB0.out HB2.out.size
    have h4 := K4.out
    refine (ins61 base _ l i ⟨x0, x1⟩ _ 61 _ (Kd.R_alloc HR2.out _) (by simp; omega) HLE.out (by omega) (blk_new _ _) (fun e => by have := hlt2 _ e; omega)).mono ?_
    rintro e w3 ⟨v2, rfl, hr2, hgr, hob⟩
    have HGR := Aside0.mk (show w.grownBy w3 (Value.slice A1 l.length c1).ownBlock from grown_step61 (grown_of_below (below_alloc HB2.out _) _) hgr)
    have HOB : Aside0 (v2.ownBlock = (Value.slice A1 l.length c1).ownBlock ∨ ∃ b, v2.ownBlock = some b ∧ w.heap.size ≤ b) := ⟨hob.imp id (fun ⟨b, e1, e2⟩ => ⟨b, e1, Nat.le_trans HB2.out.size (by simp at e2; omega)⟩)⟩
    have HB3 : Aside0 (Below base w w3) := ⟨((HB2.out.mono HB0.out).alloc hz2 _).grown hgr (by simp; omega) (fun k hk => hge2 k hk)⟩
    have HR3 := Aside0.mk hr2
    clear hr2 hgr hob hlt2 hge2 hz2 h4
    go_wp2
    go_ret
    exact ⟨v2, rfl, by rw [← H.out]; exact HR3.out, HB3.out, HGR.out, HOB.out⟩
  case pos =>
    rw [if_pos hf] at h
    have HF : Aside0 (decide (i < l.length ∧ (rd_T61 l (i : Int)).f0 = x0) = true) := ⟨decide_eq_true hf⟩
    obtain ⟨hil, hfx⟩ := hf
    have hrd : rd_T61 l (i : Int) = l[i]'hil := by
      simp [rd_T61, List.getD_eq_getElem?_getD, List.getElem?_eq_getElem hil]
    have hbd := K2.out _ (List.getElem_mem hil)
    rw [← hrd] at hbd
    obtain ⟨⟨f0, f1⟩, hx⟩ : ∃ x, x = rd_T61 l (i : Int) := ⟨_, rfl⟩
    rw [← hx] at h hfx hbd
    have HX := Aside0.mk (hx.trans hrd)
    have H := Aside0.mk h
    dsimp only at hfx hbd
    replace hfx := hfx.symm
    subst hfx
    obtain ⟨_, _, hb1, hb2⟩ := hbd
    have h3 := K3.out
    obtain ⟨_, _, hb3, hb4⟩ := h3
    have HIL := Aside0.mk hil
    clear h hx hrd
    go_enter Try.func44, Try.ntmps44
    go_wp2_with (first | ((with_reducible refine gate_dst (N := 3) rfl ?_); refine box_event ?hg (N := 3) ?hd (cs := #[.int .i64 x0, .int .i64 x1]) (t := 61) ?hr ?_; (case hd => rfl); (case hg => rfl); (case hr => first | (go_simp; done) | (go_simp; rfl)); intro gb hg w1 hbox hb; have HB1 := Aside0.mk hb; have BK := Aside0.mk hbox; have GW : w.heap.size ≤ gb := (by rw [hg]; exact Nat.le_refl _); clear hb hbox hg; have hc0 : w1.cell? ⟨gb, 0, none⟩ = some (.int .i64 x0) := (blk_cell BK.out 0).trans rfl; have hc1 : w1.cell? ⟨gb, 1, none⟩ = some (.int .i64 x1) := (blk_cell BK.out 1).trans rfl) | (go_at_call 49; fail))
    have HR1 := Aside0.mk (Kd.R_below HR.out HB1.out)
    obtain ⟨A1, c1, hv1, hlc1, hC1⟩ := Kd.R_reads HR1.out
    subst hv1
    refine (HBS.out _ _ _ hC1 hlc1).mono ?_
    rintro e w2 ⟨rfl, hb⟩
    have HB2 := Aside0.mk (below_step HB1.out hb)
    have BK2 := Aside0.mk (blk_below BK.out hb)
    have HR2 := Aside0.mk (Kd.R_below HR1.out hb)
    clear hb hc0 hc1 hC1 hlc1 HR1 BK
    have hc0 : w2.cell? ⟨gb, 0, none⟩ = some (.int .i64 x0) := (blk_cell BK2.out 0).trans rfl
    have hc1 : w2.cell? ⟨gb, 1, none⟩ = some (.int .i64 x1) := (blk_cell BK2.out 1).trans rfl
    rw [HF.out]
    obtain ⟨g, c, cur, hv, hg1, hg2, hg3, hg4, hg5, hg6⟩ := Sl.R_open flat61 HR2.out (Nat.lt_of_le_of_lt (Nat.zero_le _) HIL.out)
    injection hv with hv1 _ hv2
    subst hv1
    subst hv2
    have HROW : Aside0 (row61 w2 g (l.set i ⟨x0, f1⟩) c1) := ⟨⟨cur, hg2, hg5, by rw [show (⟨x0, f1⟩ : S61) = l[i]'HIL.out from HX.out, List.set_getElem_self]; exact hg6⟩⟩
    have HG1 := Aside0.mk hg1
    have HG4 := Aside0.mk (And.intro hg3 hg4)
    have hne : ¬ gb = g := fun e => by have h1 := own_lt (Kd.R_own HR.out).choose_spec g (by rfl); omega
    have hne2 : ¬ g = gb := fun e => hne e.symm
    clear hg1 hg2 hg3 hg4 hg5 hg6
    have hix : (i : Int) < (l.length : Int) := by have := HIL.out; omega
    have hi0 : (0 : Int) ≤ (i : Int) := by omega
    have hx1 : w2.cell? ⟨g, i * 2 + 1, none⟩ = some (.int .i64 f1) := row_cell61 HROW.out HIL.out 1 (by omega) _ rfl
    have hf1 : w2.frozen? ⟨g, i * 2 + 1, none⟩ = false := row_frozen61 HROW.out _
    go_wp2
    go_region
    go_wp2
    go_ret
    have hr1 := row_set61 HROW.out HIL.out 1 (by omega) (.int .i64 (f1 + x1)) ⟨x0, f1 + x1⟩ rfl
    have hfin := row_R61 (row_drawn61 hr1 1) HG1.out (by rw [List.length_set]; exact HG4.out.1) HG4.out.2
    rw [List.length_set] at hfin
    refine ⟨.slice (some ⟨g, 0, none⟩) l.length c1, rfl, by rw [← H.out]; exact hfin, below_drew ((HB2.out.mono HB0.out).setCell HG1.out _), ?_, .inl rfl⟩
    exact grown_step61 (grown_of_below HB2.out _) (grown_set61 _ _ _ _)
theorem sketch_put.calls (P0_ : Nat → Prop) (u9000_ : Value) (l0 : List S61) (a1_0 a1_1 : Int) (r : List S61) (w0 w : World) (hB : Below w0.heap.size w0 w) (ho0 : Kd.R k61 61 w w0.heap.size P0_ u9000_ l0) (h : sketch_put.f l0 a1_0 a1_1 = some r) :
    Calls Try.prog 44 #[u9000_, .agg #[.int .i64 a1_0, .int .i64 a1_1]] w fun e w' => ∃ v0_ : Value, e = .returned (v0_) ∧ Kd.R k61 61 w' w0.heap.size (fun k_ => (P0_ k_ ∨ w.heap.size ≤ k_)) v0_ r ∧ Below w0.heap.size w0 w' ∧ Kept w w' (fun k_ => P0_ k_) := by
  have hok := (Sl.R_flat flat61).1 ho0
  refine (sketch_put.own w0.heap.size u9000_ l0 a1_0 a1_1 r w ((Sl.R_flat flat61).2 ⟨fun _ _ => trivial, hok.2⟩) hB.size h).mono ?_
  rintro e w' ⟨v1, rfl, hr, hb, hg, hv⟩
  refine ⟨v1, rfl, (Sl.R_flat flat61).2 ⟨fun k hk => ?_, ((Sl.R_flat flat61).1 hr).2⟩, hB.trans hb, hg.size, fun k hlt hne => hg.block k hlt (fun e => hne (hok.1 k e.symm))⟩
  rcases hv with e | ⟨b, e, hlt⟩
  · exact .inl (hok.1 k (e ▸ hk))
  · exact .inr (by rw [e] at hk; injection hk with hk; omega)

end Go.Proofs.Ytgijangnoekbjaa.P
