-- Written by wip/mk.py of this repo: the kit's print program, with contracts of our own among its functions.
import Derived.Test.YthoegjpcjclbjaaPx0
import Derived.Test.YthoegjpcjclbjaaPx4
import Derived.Test.YthoegjpcjclbjaaPx6
namespace Go.Proofs.Ythoegjpcjclbjaa.P
open Go.RowKit Go.Proofs.YthoegjpcjclbjaaW.PrintWords Go.Proofs.YthoegjpcjclbjaaW.PrintLast Go.Proofs.YthoegjpcjclbjaaW.PrintMore
attribute [local go_sem] max2_int min2_int max_two min_two max_three min_three max_four min_four   -- for this text's walks alone
set_option linter.unusedVariables false
set_option linter.unusedSimpArgs false

/-! ### dedup_Note: function 13 -/
set_option maxHeartbeats 4000000 in
set_option maxRecDepth 100000 in
/-- slices.Insert of one element: at the end. -/
theorem insE44 (base : Nat) (v : Value) (l : List S44) (x : S44) (vb : Nat) (tv : TypeId) (w : World)
    (hR : Kd.R k44 44 w base (fun _ => True) v l) (hb : base ≤ w.heap.size) (hlen : (l.length + 1) * 40 ≤ 140737488355328)
    (hvb : w.heap[vb]? = some (.cells (enc44 x).toArray tv (0, 0))) :
    Calls Try.prog 23 #[v, .int .i64 l.length, .slice (some ⟨vb, 0, none⟩) 1 1] w fun e w' => ∃ v1, e = .returned v1 ∧ Kd.R k44 44 w' base (fun _ => True) v1 (l ++ [x]) ∧ w.grownBy w' v.ownBlock ∧ (v1.ownBlock = v.ownBlock ∨ ∃ b, v1.ownBlock = some b ∧ w.heap.size ≤ b) := by
  have HR := Aside0.mk hR
  have HV := Aside0.mk (Sl.row_one flat44 x hvb)
  obtain ⟨A, c, rfl⟩ := Kd.R_slice hR
  have hlc : l.length ≤ c := by obtain ⟨A', c', h1, h2, _⟩ := Kd.R_reads hR; injection h1 with _ _ h3; omega
  have huS := Try.underlying22
  clear hR hvb
  obtain ⟨ob, hob⟩ : ∃ ob, ob = (Value.slice A l.length c).ownBlock := ⟨_, rfl⟩
  rw [← hob]
  have HOB := Aside0.mk hob
  clear hob
  by_cases hcl : c = l.length
  case' pos => subst hcl
  all_goals
    go_enter Try.func23, Try.ntmps23
    go_wp2_with (at_builtin; refine Kd.R_append_rows k44 (Rr := k44.K w) (w0 := w) base rfl _ _ _ 44 (.agg #[(.int .i64 0), (.int .i64 0), (.int .i64 0), (.int .i64 0), (.int .i64 0)]) 40 rfl huS (by kernel_rfl) rfl (by decide) (by decide) _ l [x] (some ⟨vb, 0, none⟩) 1 1 (fun _ => True) (fun _ => False) rfl rfl HR.out HV.out (fun x cs hx => by rw [(flat44.k _ _ _).1 hx]; exact (flat44.m _ _ _ _ _).2 rfl) (fun _ hk => hk.elim) (fun _ _ => trivial) (Below.refl _ _) hb hlen ?_; intro v1 w1 hR1 _ hg1 ha1; have HR1 := Aside0.mk hR1; have HG1 : Aside0 (w.grownBy w1 ob) := ⟨HOB.out ▸ hg1⟩; have HA1 : Aside0 (v1.ownBlock = ob ∨ ∃ b, v1.ownBlock = some b ∧ w.heap.size ≤ b) := ⟨HOB.out ▸ ha1⟩; clear hR1 hg1 ha1)
    go_ret
    exact ⟨_, rfl, HR1.out, HG1.out, HA1.out⟩
set_option maxHeartbeats 4000000 in
set_option maxRecDepth 100000 in
/-- .. inside, no room: a new row. -/
theorem insG44 (base : Nat) (g c : Nat) (cur : Array Value) (l : List S44) (i : Nat) (x : S44) (vb : Nat) (tv : TypeId) (w : World)
    (hg : w.heap[g]? = some (.cells cur 44 (0, 0))) (hcur : cur.toList.take (l.length * 5) = l.flatMap enc44) (hcs : cur.size = c * 5) (hb : base ≤ w.heap.size) (hlen : (l.length + 1) * 40 ≤ 140737488355328) (hi : i < l.length) (hlc : l.length ≤ c) (hc : c < l.length + 1)
    (hvb : w.heap[vb]? = some (.cells (enc44 x).toArray tv (0, 0))) :
    Calls Try.prog 23 #[.slice (some ⟨g, 0, none⟩) l.length c, .int .i64 i, .slice (some ⟨vb, 0, none⟩) 1 1] w fun e w' => ∃ v1, e = .returned v1 ∧ Kd.R k44 44 w' base (fun _ => True) v1 (l.take i ++ x :: l.drop i) ∧ Below w.heap.size w w' ∧ (∃ b, v1.ownBlock = some b ∧ w.heap.size ≤ b) := by
  have HG := Aside0.mk hg
  have HV := Aside0.mk hvb
  have HCUR := Aside0.mk hcur
  have HCS := Aside0.mk hcs
  have huS := Try.underlying22
  have hui := Try.underlying3
  obtain ⟨n, hn⟩ : ∃ n, n = l.length := ⟨_, rfl⟩
  rw [← hn] at hlen hi hlc hc ⊢
  have HN := Aside0.mk hn
  clear hg hvb hcur hcs hn
  have hz1 : ((i : Int) == (n : Int)) = false := by rw [beq_eq_false_iff_ne]; omega
  have hz2 : ¬ (c = i) := by omega
  have hz3 : (c : Int) < (n : Int) + 1 := by omega
  have hz3b : decide ((c : Int) < (n : Int) + 1) = true := by rw [decide_eq_true_iff]; omega
  have hin : i ≤ n := by omega
  have hi0 : (0 : Int) ≤ (i : Int) := by omega
  go_enter Try.func23, Try.ntmps23
  have HM1 : Aside0 (Nat.min 1 (n + 1 - i) = 1) := ⟨Nat.min_eq_left (by omega)⟩
  have HXL : Aside0 ((enc44 x).length = 5) := ⟨rfl⟩
  go_wp2_with (first | (at_builtin; refine Sl.wpList_zerosK rfl _ _ 22 3 44 (.agg #[(.int .i64 0), (.int .i64 0), (.int .i64 0), (.int .i64 0), (.int .i64 0)]) 5 40 rfl huS hui (by kernel_rfl) rfl (by decide) (by decide) g i c rfl (n + 1 - i) rfl (by omega) cur 44 HG.out ?c1 (by omega) (by omega) (by omega) (n + 1) (by omega) ?_; (case c1 => have h9 := HCS.out; omega); intro w1 G cur1 HF1 HG1 HB1; obtain ⟨F1, F2, F3, F4⟩ := HF1.out; have HF3 := Aside0.mk F3; have HF4 := Aside0.mk F4; clear HF1 F3 F4; have hz4 : ¬ (G = i) := (by omega); have hz5 : ¬ (G = i + 1) := (by omega)) | ((with_reducible refine gate_builtin (b := .copy) rfl ?_); go_loud (refine Sl.wpList_copyK rfl _ _ 22 22 rfl 44 huS 5 (by kernel_rfl) w.heap.size (i * 5) _ _ ⟨vb, 0, none⟩ 1 1 rfl rfl cur1 44 HG1.out (enc44 x) (by rw [HM1.out]; rfl) (fun j u hu => by rw [add_plain, blk_cell (blk_below HV.out HB1.out)]; simpa using hu) (by rw [HXL.out, HF3.out]; omega) (flat44.one w x) ?_; intro w2 HG2 HGr2)))
  have HB12 : Aside0 (w2.heap[g]? = some (.cells cur 44 (0, 0))) := ⟨(HGr2.out.block g (by have := blk_lt (blk_below HG.out HB1.out); exact this) (by have := blk_lt HG.out; simp; omega)).trans (blk_below HG.out HB1.out)⟩
  have HDL : Aside0 (((l.drop i).flatMap enc44).length = (n - i) * 5) := ⟨by rw [flat44.flen w, List.length_drop, HN.out]; rfl⟩
  have HSRC : Aside0 (∀ j u, ((l.drop i).flatMap enc44)[j]? = some u → w2.cell? ((⟨g, i * 5, none⟩ : Addr).add j) = some u) := ⟨fun j u hu => by
    rw [Addr.add_lit, blk_cell HB12.out]
    rw [Sl.flat_drop flat44 w, ← HCUR.out, List.drop_take, List.getElem?_take] at hu
    split at hu
    · rw [List.getElem?_drop] at hu
      rw [← Array.getElem?_toList]; exact hu
    · cases hu⟩
  have hw1 : IntKind.i64.wrap ((i : Int) + 1) = (i : Int) + 1 := by rw [IntKind.wrap_i64]; omega
  have hb1 : (0 : Int) ≤ (i : Int) + 1 := by omega
  have htn : ((i : Int) + 1).toNat = i + 1 := by omega
  have hb3 : (i : Int) ≤ (n : Int) := by omega
  have HM2 : Aside0 (Nat.min (n - i) (n - i) = n - i) := ⟨Nat.min_self _⟩
  have HFIT : Aside0 ((i + 1) * 5 + ((l.drop i).flatMap enc44).length ≤ (cur1.toList.take (i * 5) ++ enc44 x ++ cur1.toList.drop (i * 5 + (enc44 x).length)).toArray.size) := ⟨by
    rw [List.size_toArray, Sl.len_splice _ _ _ (by rw [HXL.out, Array.length_toList, HF3.out]; omega), HDL.out, Array.length_toList, HF3.out]; omega⟩
  go_region_law (refine Sl.step_copyK (w := w2.drew) rfl (.tmp 50) (.tmp 53) 22 22 rfl 44 huS 5 (by kernel_rfl) w.heap.size ((i + 1) * 5) (n - i) (G - (i + 1)) ⟨g, i * 5, none⟩ (n - i) (c - i) (by simp [Act.eval, Act.put]) (by simp [Act.eval, Act.put]) (cur1.toList.take (i * 5) ++ enc44 x ++ cur1.toList.drop (i * 5 + (enc44 x).length)).toArray 44 HG2.out ((l.drop i).flatMap enc44) (by rw [HDL.out, HM2.out]) HSRC.out HFIT.out (flat44.fone w _) ?_; intro w3 HG3 HGr3)
  clear hw1 hb1 htn hb3 HFIT HSRC
  go_wp2
  go_ret
  have hB2 : Below w.heap.size w w2 := HB1.out.grown HGr2.out HB1.out.size (fun k hk => by injection hk with hk; omega)
  have hB3 : Below w.heap.size w w3 := (below_drew hB2).grown HGr3.out hB2.size (fun k hk => by injection hk with hk; omega)
  refine ⟨_, rfl, ?_, hB3, ⟨w.heap.size, rfl, Nat.le_refl _⟩⟩
  have hil : i ≤ l.length := by rw [← HN.out]; exact hin
  have h4 : cur1.toList.take (i * k44.sz) = (l.take i).flatMap enc44 := by
    rw [Sl.flat_take flat44 w, ← HCUR.out, List.take_take, Nat.min_eq_left (by rw [← HN.out]; exact Nat.mul_le_mul_right _ hin)]
    exact HF4.out
  obtain ⟨h5, h6⟩ := Sl.ins_new flat44 w cur1.toList l i x hil h4 (by have h9 : cur1.toList.length = G * 5 := Array.length_toList.trans HF3.out; rw [h9, ← HN.out]; exact Nat.mul_le_mul_right _ F1)
  have h7 := HG3.out
  have h8 := Sl.flat_ins flat44 w l i x hil
  have := Sl.R_block (ok := fun _ => True) (cap := G) (xs := l.take i ++ x :: l.drop i) flat44 hb h7 trivial (by rw [h8, ← HN.out]; exact F1) F2 (by rw [List.size_toArray]; refine Eq.trans h6 ?_; exact (Array.length_toList.trans HF3.out)) (by rw [h8]; exact h5)
  rw [h8, ← HN.out] at this
  exact this
set_option maxHeartbeats 4000000 in
set_option maxRecDepth 100000 in
/-- .. inside, there is room: in place. -/
theorem insR44 (base : Nat) (g c : Nat) (cur : Array Value) (l : List S44) (i : Nat) (x : S44) (vb : Nat) (tv : TypeId) (w : World)
    (hg : w.heap[g]? = some (.cells cur 44 (0, 0))) (hcur : cur.toList.take (l.length * 5) = l.flatMap enc44) (hcs : cur.size = c * 5) (hbg : base ≤ g) (hi : i < l.length) (hlc : l.length + 1 ≤ c) (hc63 : c ≤ 9223372036854775807)
    (hvb : w.heap[vb]? = some (.cells (enc44 x).toArray tv (0, 0))) (hne : vb ≠ g) :
    Calls Try.prog 23 #[.slice (some ⟨g, 0, none⟩) l.length c, .int .i64 i, .slice (some ⟨vb, 0, none⟩) 1 1] w fun e w' => ∃ v1, e = .returned v1 ∧ Kd.R k44 44 w' base (fun _ => True) v1 (l.take i ++ x :: l.drop i) ∧ w.grownBy w' (some g) ∧ v1.ownBlock = some g := by
  have HG := Aside0.mk hg
  have HV := Aside0.mk hvb
  have HCUR := Aside0.mk hcur
  have HCS := Aside0.mk hcs
  have huS := Try.underlying22
  have hui := Try.underlying3
  have hov : ∀ lb cb, (callFunc 33 #[.slice (some ⟨vb, 0, none⟩) 1 1, .slice (some ⟨g, (i + 1) * 5, none⟩) lb cb]).run Try.prog w = .ok (.value (.bool false)) w := fun lb cb => by
    rw [run_callFunc_extern Try.func33 (by kernel_rfl) (by kernel_rfl) (by kernel_rfl) (e := Extern.SlicesOverlaps.overlaps #[22, 22] #[4]) (by kernel_rfl),
      Lib.run_overlaps_apart w 22 4 44 huS 5 Try.sizeOf44 ⟨vb, 0, none⟩ ⟨g, (i + 1) * 5, none⟩ 1 1 lb cb hne tv 44 5 cur.size (by simp [World.shape?, hvb]; rfl) (by simp [World.shape?, hg]) (by rw [hcs]; omega) (blk_frozen hvb 0) (blk_frozen hvb _)]
    rfl
  obtain ⟨n, hn⟩ : ∃ n, n = l.length := ⟨_, rfl⟩
  rw [← hn] at hi hlc ⊢
  have HN := Aside0.mk hn
  clear hg hvb hcur hcs hn
  have hz1 : ((i : Int) == (n : Int)) = false := by rw [beq_eq_false_iff_ne]; omega
  have hz2 : ¬ (c = i) := by omega
  have hz3 : ¬ ((c : Int) < (n : Int) + 1) := by omega
  have hz3b : decide ((c : Int) < (n : Int) + 1) = false := by rw [decide_eq_false_iff_not]; omega
  have hin : i ≤ n := by omega
  have hi0 : (0 : Int) ≤ (i : Int) := by omega
  have hz4 : ¬ (c = i + 1) := by omega
  have HM1 : Aside0 (Nat.min 1 (n + 1 - i) = 1) := ⟨Nat.min_eq_left (by omega)⟩
  have HXL : Aside0 ((enc44 x).length = 5) := ⟨rfl⟩
  go_enter Try.func23, Try.ntmps23
  go_wp2_with (simp only [hov])
  have HDL : Aside0 (((l.drop i).flatMap enc44).length = (n - i) * 5) := ⟨by rw [flat44.flen w, List.length_drop, HN.out]; rfl⟩
  have HSRC : Aside0 (∀ j u, ((l.drop i).flatMap enc44)[j]? = some u → w.cell? ((⟨g, i * 5, none⟩ : Addr).add j) = some u) := ⟨fun j u hu => by
    rw [Addr.add_lit, blk_cell HG.out]
    rw [Sl.flat_drop flat44 w, ← HCUR.out, List.drop_take, List.getElem?_take] at hu
    split at hu
    · rw [List.getElem?_drop] at hu
      rw [← Array.getElem?_toList]; exact hu
    · cases hu⟩
  have HM2 : Aside0 (Nat.min (n + 1 - i) (n - i) = n - i) := ⟨Nat.min_eq_right (by omega)⟩
  have HFIT : Aside0 ((i + 1) * 5 + ((l.drop i).flatMap enc44).length ≤ cur.size) := ⟨by rw [HDL.out, HCS.out]; omega⟩
  have hw1 : IntKind.i64.wrap ((i : Int) + 1) = (i : Int) + 1 := by rw [IntKind.wrap_i64]; omega
  have hb1 : (0 : Int) ≤ (i : Int) + 1 := by omega
  have htn : ((i : Int) + 1).toNat = i + 1 := by omega
  have hb3 : (i : Int) ≤ (n : Int) := by omega
  have hb4 : (i : Int) ≤ (n : Int) + 1 := by omega
  go_region_law (refine Sl.step_copyK (w := w.drew) rfl (.tmp 73) (.tmp 76) 22 22 rfl 44 huS 5 (by kernel_rfl) g ((i + 1) * 5) (n - i) (c - (i + 1)) ⟨g, i * 5, none⟩ (n + 1 - i) (c - i) (by simp [Act.eval, Act.put]) (by simp [Act.eval, Act.put]) cur 44 HG.out ((l.drop i).flatMap enc44) (by rw [HDL.out, HM2.out]) HSRC.out HFIT.out (flat44.fone w _) ?_; intro w1 HG1 HGr1)
  clear hw1 hb1 htn hb3 HSRC hov
  have HV1 : Aside0 (w1.heap[vb]? = some (.cells (enc44 x).toArray tv (0, 0))) := ⟨(HGr1.out.block vb (blk_lt HV.out) (fun e => hne (Option.some.inj e))).trans HV.out⟩
  have HFIT2 : Aside0 (i * 5 + (enc44 x).length ≤ (cur.toList.take ((i + 1) * 5) ++ (l.drop i).flatMap enc44 ++ cur.toList.drop ((i + 1) * 5 + ((l.drop i).flatMap enc44).length)).toArray.size) := ⟨by
    rw [List.size_toArray, Sl.len_splice _ _ _ (by have := HFIT.out; rwa [Array.length_toList]), HXL.out, Array.length_toList, HCS.out]; omega⟩
  go_wp2_with ((with_reducible refine gate_builtin (b := .copy) rfl ?_); go_loud (refine Sl.wpList_copyK rfl _ _ 22 22 rfl 44 huS 5 (by kernel_rfl) g (i * 5) _ _ ⟨vb, 0, none⟩ 1 1 rfl rfl _ 44 HG1.out (enc44 x) (by rw [HM1.out]; rfl) (fun j u hu => by rw [add_plain, blk_cell HV1.out]; simpa using hu) HFIT2.out (flat44.one w x) ?_; intro w2 HG2 HGr2))
  go_ret
  have hgr : w.grownBy w2 (some g) := ⟨HGr2.out.os.trans HGr1.out.os, HGr2.out.tape.trans HGr1.out.tape, HGr2.out.output.trans HGr1.out.output, Nat.le_trans HGr1.out.size HGr2.out.size, fun k hk hne => (HGr2.out.block k (Nat.lt_of_lt_of_le hk HGr1.out.size) hne).trans (HGr1.out.block k hk hne)⟩
  refine ⟨_, rfl, ?_, hgr, rfl⟩
  have hil : i ≤ l.length := by rw [← HN.out]; exact hin
  have h4 : cur.toList.take (i * k44.sz) = (l.take i).flatMap enc44 := by
    rw [Sl.flat_take flat44 w, ← HCUR.out, List.take_take, Nat.min_eq_left (by rw [← HN.out]; exact Nat.mul_le_mul_right _ hin)]
  have h9 : cur.toList.length = c * 5 := Array.length_toList.trans HCS.out
  obtain ⟨h5, h6⟩ := Sl.ins_old flat44 w cur.toList l i x hil h4 (by rw [h9, ← HN.out]; exact Nat.mul_le_mul_right _ hlc)
  have h7 := HG2.out
  have h8 := Sl.flat_ins flat44 w l i x hil
  have := Sl.R_block (ok := fun _ => True) (cap := c) (xs := l.take i ++ x :: l.drop i) flat44 hbg h7 trivial (by rw [h8, ← HN.out]; exact hlc) hc63 (by rw [List.size_toArray]; refine Eq.trans h6 ?_; exact h9) (by rw [h8]; exact h5)
  rw [h8, ← HN.out] at this
  exact this
/-- slices.Insert of one element, whatever the room. -/
theorem ins44 (base : Nat) (v : Value) (l : List S44) (i : Nat) (x : S44) (vb : Nat) (tv : TypeId) (w : World)
    (hR : Kd.R k44 44 w base (fun _ => True) v l) (hb : base ≤ w.heap.size) (hi : i ≤ l.length) (hlen : (l.length + 1) * 40 ≤ 140737488355328)
    (hvb : w.heap[vb]? = some (.cells (enc44 x).toArray tv (0, 0))) (hne : v.ownBlock ≠ some vb) :
    Calls Try.prog 23 #[v, .int .i64 i, .slice (some ⟨vb, 0, none⟩) 1 1] w fun e w' => ∃ v1, e = .returned v1 ∧ Kd.R k44 44 w' base (fun _ => True) v1 (l.take i ++ x :: l.drop i) ∧ w.grownBy w' v.ownBlock ∧ (v1.ownBlock = v.ownBlock ∨ ∃ b, v1.ownBlock = some b ∧ w.heap.size ≤ b) := by
  rcases Nat.lt_or_ge i l.length with h | h
  · obtain ⟨g, c, cur, rfl, hg1, hg2, hg3, hg4, hg5, hg6⟩ := Sl.R_open flat44 hR (by omega)
    rcases Nat.lt_or_ge c (l.length + 1) with hc | hc
    · refine (insG44 base g c cur l i x vb tv w hg2 hg6 hg5 hb hlen h hg3 hc hvb).mono ?_
      rintro e w' ⟨v1, h1, h2, h3, h4⟩
      exact ⟨v1, h1, h2, grown_of_below h3 _, .inr h4⟩
    · refine (insR44 base g c cur l i x vb tv w hg2 hg6 hg5 hg1 h hc hg4 hvb (fun e => hne (by simp [Value.ownBlock, e]))).mono ?_
      rintro e w' ⟨v1, h1, h2, h3, h4⟩
      exact ⟨v1, h1, h2, by simpa [Value.ownBlock] using h3, .inl (by rw [h4]; rfl)⟩
  · obtain rfl : i = l.length := by omega
    rw [List.take_length, List.drop_length]
    exact insE44 base v l x vb tv w hR hb hlen hvb
/-- A row that is known whole. -/
def row44 (W : World) (g : Nat) (l : List S44) (c : Nat) : Prop := ∃ cur : Array Value, W.heap[g]? = some (.cells cur 44 (0, 0)) ∧ cur.size = c * 5 ∧ cur.toList.take (l.length * 5) = l.flatMap enc44
theorem row_frozen44 {W : World} {g : Nat} {l : List S44} {c : Nat} (h : row44 W g l c) (p : Nat) : W.frozen? ⟨g, p, none⟩ = false := by
  obtain ⟨cur, h1, _, _⟩ := h
  exact blk_frozen h1 p
theorem row_cell44 {W : World} {g : Nat} {l : List S44} {c i : Nat} {x : S44} (h : row44 W g (l.set i x) c) (hi : i < l.length) (j : Nat) (hj : j < 5) (u : Value) (hu : (enc44 x)[j]? = some u) : W.cell? ⟨g, i * 5 + j, none⟩ = some u := by
  obtain ⟨cur, h1, h2, h3⟩ := h
  rw [blk_cell h1, ← Array.getElem?_toList]
  have h4 := congrArg (fun z => z[i * 5 + j]?) h3
  rw [List.length_set, List.getElem?_take, if_pos (by omega), Sl.flat_get (K := 5) (fun _ => rfl) (l.set i x) i j (by rw [List.length_set]; exact hi) hj, List.getElem_set_self] at h4
  rw [h4]; exact hu
theorem row_set44 {W : World} {g : Nat} {l : List S44} {c i : Nat} {x : S44} (h : row44 W g (l.set i x) c) (hi : i < l.length) (j : Nat) (hj : j < 5) (u : Value) (y : S44) (hy : enc44 y = (enc44 x).set j u) : row44 (W.setCell ⟨g, i * 5 + j, none⟩ u) g (l.set i y) c := by
  obtain ⟨cur, h1, h2, h3⟩ := h
  obtain ⟨b1, s1, t1⟩ := Sl.block_set h1 (i * 5 + j) (l.length * 5) u
  refine ⟨_, b1, s1.trans h2, ?_⟩
  rw [List.length_set] at h3 ⊢
  have q := Sl.set_cell (enc := enc44) (K := 5) (fun _ => rfl) u j hj y (l.set i x) i (by rw [List.length_set]; exact hi) (by rw [List.getElem_set_self]; exact hy)
  rw [List.set_set] at q
  exact t1.trans ((congrArg (fun z => z.set (i * 5 + j) u) h3).trans q)
theorem row_R44 {W : World} {g : Nat} {l : List S44} {c base : Nat} (h : row44 W g l c) (hb : base ≤ g) (h1 : l.length ≤ c) (h2 : c ≤ 9223372036854775807) : Kd.R k44 44 W base (fun _ => True) (.slice (some ⟨g, 0, none⟩) l.length c) l := by
  obtain ⟨cur, h3, h4, h5⟩ := h
  exact Sl.R_block flat44 hb h3 trivial h1 h2 h4 h5
theorem row_drawn44 {W : World} {g : Nat} {l : List S44} {c : Nat} (h : row44 W g l c) (m : Nat) : row44 (W.drewN m) g l c := by
  obtain ⟨cur, h3, h4, h5⟩ := h
  exact ⟨cur, blk_drewN h3 m, h4, h5⟩
def dedup_Note.row (kind pid epoch seq n base : Int) : S44 := if kind > 2 then ⟨pid, epoch, 0, 0, base⟩ else ⟨pid, epoch, seq, n, base⟩
def dedup_Note.v (l : List S44) (kind pid epoch seq n base : Int) : List S44 :=
  if pid = 0 then l
  else if (dedup_find.v l pid).2 = true then
    (if kind > 2 ∧ epoch ≤ (rd_T44 l (dedup_find.v l pid).1).f1 then l else l.set (dedup_find.v l pid).1.toNat (dedup_Note.row kind pid epoch seq n base))
  else l.take (dedup_find.v l pid).1.toNat ++ dedup_Note.row kind pid epoch seq n base :: l.drop (dedup_find.v l pid).1.toNat
def dedup_Note.f (l : List S44) (kind pid epoch seq : Int) (rs : List S49) (base : Int) : Option (List S44) :=
  if l.length ≤ 1000000 ∧ 0 ≤ (dedup_find.v l pid).1 ∧ (dedup_find.v l pid).1 ≤ l.length ∧ ((dedup_find.v l pid).2 = true → (dedup_find.v l pid).1 < l.length) then some (dedup_Note.v l kind pid epoch seq rs.length base) else none
theorem row_below44 {W W' : World} {g : Nat} {l : List S44} {c : Nat} (h : row44 W g l c) (hb : Below W.heap.size W W') : row44 W' g l c := by
  obtain ⟨cur, h3, h4, h5⟩ := h
  exact ⟨cur, blk_below h3 hb, h4, h5⟩
set_option maxHeartbeats 16000000 in
set_option maxRecDepth 100000 in
theorem dedup_Note.calls (A0 : Option Addr) (c0 : Nat) (l0 : List S44) (a1_0 a1_1 a1_2 a1_3 : Int) (A1_4 : Option Addr) (c1_4 : Nat) (l1_4 : List S49) (a2 : Int) (r : List S44) (w : World) (hr0 : Kd.C k44 w A0 l0.length l0) (hc0 : l0.length ≤ c0) (hr1_4 : Kd.C k49 w A1_4 l1_4.length l1_4) (hc1_4 : l1_4.length ≤ c1_4) (h : dedup_Note.f l0 a1_0 a1_1 a1_2 a1_3 l1_4 a2 = some r) :
    Calls Try.prog 13 #[.slice A0 l0.length c0, .agg #[.int .i64 a1_0, .int .i64 a1_1, .int .i64 a1_2, .int .i64 a1_3, .slice A1_4 l1_4.length c1_4], .int .i64 a2] w fun e w' => ∃ v0_ : Value, e = .returned (v0_) ∧ Kd.R k44 44 w' w.heap.size (fun _ => True) v0_ r ∧ Below w.heap.size w w' := by
  have HR := Aside0.mk hr0
  have HC := Aside0.mk hc0
  clear hr0 hc0 hc1_4
  have hn1 := hr1_4.2.1
  clear hr1_4
  unfold dedup_Note.f at h
  split at h
  case isFalse => cases h
  rename_i hok
  injection h with h
  obtain ⟨hl, hi0, hil, hil2⟩ := hok
  have HL6 := Aside0.mk hl
  have HL6 := Aside0.mk hl
  have HL6 := Aside0.mk hl
  have HL6 := Aside0.mk hl
  have HL6 := Aside0.mk hl
  unfold dedup_Note.v at h
  obtain ⟨n1, hn1e⟩ : ∃ n1, n1 = l1_4.length := ⟨_, rfl⟩
  rw [← hn1e] at h hn1 ⊢
  clear hn1e
  by_cases hp : a1_1 = 0
  · rw [if_pos hp] at h
    have hpb : (a1_1 == 0) = true := beq_iff_eq.2 hp
    have H := Aside0.mk h
    clear h hi0 hil hil2 hp
    have huB := Try.underlying25
    have huP := Try.underlying44
    go_enter Try.func13, Try.ntmps13
    go_wp2_with (first | ((with_reducible refine gate_dst (N := 4) rfl ?_); refine box_event ?hg (N := 4) ?hd (cs := #[.int .i64 a1_0, .int .i64 a1_1, .int .i64 a1_2, .int .i64 a1_3, .slice A1_4 n1 c1_4]) (t := 25) ?hr ?_; (case hd => rfl); (case hg => rfl); (case hr => first | (go_simp; done) | (go_simp; rfl)); intro gb hg w1 hbox hb; have HB1 := Aside0.mk hb; have BK := Aside0.mk hbox; have GW : w.heap.size ≤ gb := (by rw [hg]; exact Nat.le_refl _); clear hb hbox hg) | (go_at_call 22; fail))
    have hb40 : l0.length * 40 ≤ 140737488355328 := by have := HL6.out; omega
    refine (clone44 _ _ l0 _ (Kd.C_below HR.out HB1.out) HC.out hb40).mono ?_
    rintro e W4 ⟨v1, rfl, hr, hb⟩
    have HB4 := Aside0.mk (below_step HB1.out hb)
    have BK4 := Aside0.mk (blk_below BK.out hb)
    have hgb4 : gb < w1.heap.size := blk_lt BK.out
    have HZ1 := Aside0.mk HB1.out.size
    have hz14 : w1.heap.size ≤ W4.heap.size := hb.size
    clear hb hb40 HB1 BK
    obtain ⟨A4, c4, hv4, hlc4, hC4⟩ := Kd.R_reads hr
    subst hv4
    have HC4 := Aside0.mk hC4
    have HLC4 := Aside0.mk hlc4
    have HR4 := Aside0.mk (Kd.R_lower hr HZ1.out)
    have HAP := Aside0.mk (show ∀ k, (Value.slice A4 l0.length c4).ownBlock = some k → gb < k from fun k hk => Nat.lt_of_lt_of_le hgb4 (own_base (Kd.R_own hr).choose_spec k hk))
    clear hC4 hlc4 hr
    have hc0 : W4.cell? ⟨gb, 0, none⟩ = some (.int .i64 a1_0) := (blk_cell BK4.out 0).trans rfl
    have hc1 : W4.cell? ⟨gb, 1, none⟩ = some (.int .i64 a1_1) := (blk_cell BK4.out 1).trans rfl
    have hc2 : W4.cell? ⟨gb, 2, none⟩ = some (.int .i64 a1_2) := (blk_cell BK4.out 2).trans rfl
    have hc3 : W4.cell? ⟨gb, 3, none⟩ = some (.int .i64 a1_3) := (blk_cell BK4.out 3).trans rfl
    have hc4 : W4.cell? ⟨gb, 4, none⟩ = some (.slice A1_4 n1 c1_4) := (blk_cell BK4.out 4).trans rfl
    go_wp2
    go_ret
    exact ⟨_, rfl, by rw [← H.out]; exact HR4.out, HB4.out⟩
  rw [if_neg hp] at h
  have hpb : (a1_1 == 0) = false := beq_eq_false_iff_ne.2 hp
  clear hp
  obtain ⟨i, ok, hv⟩ : ∃ i ok, dedup_find.v l0 a1_1 = (i, ok) := ⟨_, _, rfl⟩
  rw [hv] at h hi0 hil hil2
  dsimp only at h hi0 hil hil2
  have HF : Aside0 (dedup_find.f l0 a1_1 = some (i, ok)) := ⟨congrArg some hv⟩
  clear hv
  obtain ⟨q, rfl⟩ := Int.eq_ofNat_of_zero_le hi0
  rw [Int.toNat_natCast] at h
  have hql : q ≤ l0.length := by omega
  have HQL := Aside0.mk hql
  clear hil hql
  cases ok with
  | false =>
    rw [if_neg (by decide)] at h
    by_cases hk : a1_0 > 2
    · have hkb : decide (2 < a1_0) = true := decide_eq_true hk
      rw [dedup_Note.row, if_pos hk] at h
      have H := Aside0.mk h
      clear h hi0 hil2 hl hk
      have huB := Try.underlying25
      have huP := Try.underlying44
      go_enter Try.func13, Try.ntmps13
      go_wp2_with (first | ((with_reducible refine gate_dst (N := 4) rfl ?_); refine box_event ?hg (N := 4) ?hd (cs := #[.int .i64 a1_0, .int .i64 a1_1, .int .i64 a1_2, .int .i64 a1_3, .slice A1_4 n1 c1_4]) (t := 25) ?hr ?_; (case hd => rfl); (case hg => rfl); (case hr => first | (go_simp; done) | (go_simp; rfl)); intro gb hg w1 hbox hb; have HB1 := Aside0.mk hb; have BK := Aside0.mk hbox; have GW : w.heap.size ≤ gb := (by rw [hg]; exact Nat.le_refl _); clear hb hbox hg) | (go_at_call 22; fail))
      have hb40 : l0.length * 40 ≤ 140737488355328 := by have := HL6.out; omega
      refine (clone44 _ _ l0 _ (Kd.C_below HR.out HB1.out) HC.out hb40).mono ?_
      rintro e W4 ⟨v1, rfl, hr, hb⟩
      have HB4 := Aside0.mk (below_step HB1.out hb)
      have BK4 := Aside0.mk (blk_below BK.out hb)
      have hgb4 : gb < w1.heap.size := blk_lt BK.out
      have HZ1 := Aside0.mk HB1.out.size
      have hz14 : w1.heap.size ≤ W4.heap.size := hb.size
      clear hb hb40 HB1 BK
      obtain ⟨A4, c4, hv4, hlc4, hC4⟩ := Kd.R_reads hr
      subst hv4
      have HC4 := Aside0.mk hC4
      have HLC4 := Aside0.mk hlc4
      have HR4 := Aside0.mk (Kd.R_lower hr HZ1.out)
      have HAP := Aside0.mk (show ∀ k, (Value.slice A4 l0.length c4).ownBlock = some k → gb < k from fun k hk => Nat.lt_of_lt_of_le hgb4 (own_base (Kd.R_own hr).choose_spec k hk))
      clear hC4 hlc4 hr
      have hc0 : W4.cell? ⟨gb, 0, none⟩ = some (.int .i64 a1_0) := (blk_cell BK4.out 0).trans rfl
      have hc1 : W4.cell? ⟨gb, 1, none⟩ = some (.int .i64 a1_1) := (blk_cell BK4.out 1).trans rfl
      have hc2 : W4.cell? ⟨gb, 2, none⟩ = some (.int .i64 a1_2) := (blk_cell BK4.out 2).trans rfl
      have hc3 : W4.cell? ⟨gb, 3, none⟩ = some (.int .i64 a1_3) := (blk_cell BK4.out 3).trans rfl
      have hc4 : W4.cell? ⟨gb, 4, none⟩ = some (.slice A1_4 n1 c1_4) := (blk_cell BK4.out 4).trans rfl
      go_wp2_with (go_at_call 21; fail)
      refine (dedup_find.calls _ _ l0 a1_1 _ _ _ HC4.out HLC4.out HF.out).mono ?_
      rintro e W5 ⟨rfl, hb⟩
      have HB5 := Aside0.mk (below_step HB4.out hb)
      have BK5 := Aside0.mk (blk_below BK4.out hb)
      have HR5 := Aside0.mk (Kd.R_below HR4.out hb)
      have hz45 : W4.heap.size ≤ W5.heap.size := hb.size
      have hgb5 : gb < W5.heap.size := blk_lt BK5.out
      clear hb hc0 hc1 hc2 hc3 hc4 HC4 HLC4 HB4 BK4 HR4
      have hc0 : W5.cell? ⟨gb, 0, none⟩ = some (.int .i64 a1_0) := (blk_cell BK5.out 0).trans rfl
      have hc1 : W5.cell? ⟨gb, 1, none⟩ = some (.int .i64 a1_1) := (blk_cell BK5.out 1).trans rfl
      have hc2 : W5.cell? ⟨gb, 2, none⟩ = some (.int .i64 a1_2) := (blk_cell BK5.out 2).trans rfl
      have hc3 : W5.cell? ⟨gb, 3, none⟩ = some (.int .i64 a1_3) := (blk_cell BK5.out 3).trans rfl
      have hc4 : W5.cell? ⟨gb, 4, none⟩ = some (.slice A1_4 n1 c1_4) := (blk_cell BK5.out 4).trans rfl
      go_wp2_with (first | ((with_reducible refine gate_dst (N := 9) rfl ?_); refine box_event ?hg (N := 9) ?hd (cs := #[.int .i64 0, .int .i64 0, .int .i64 0, .int .i64 0, .int .i64 0]) (t := 44) ?hr ?_; (case hd => rfl); (case hg => rfl); (case hr => first | (go_simp; done) | (go_simp; rfl)); intro g9 hg w6 hbox hb; have HG9 := Aside0.mk (show W5.heap.size ≤ g9 from (by rw [hg]; exact Nat.le_refl _)); have HB6 := Aside0.mk hb; have BR6 := Aside0.mk hbox; have BK6 := Aside0.mk (blk_below BK5.out hb); clear hb hbox hg hc0 hc1 hc2 hc3 hc4; have hc0 : w6.cell? ⟨gb, 0, none⟩ = some (.int .i64 a1_0) := (blk_cell BK6.out 0).trans rfl; have hc1 : w6.cell? ⟨gb, 1, none⟩ = some (.int .i64 a1_1) := (blk_cell BK6.out 1).trans rfl; have hc2 : w6.cell? ⟨gb, 2, none⟩ = some (.int .i64 a1_2) := (blk_cell BK6.out 2).trans rfl; have hc3 : w6.cell? ⟨gb, 3, none⟩ = some (.int .i64 a1_3) := (blk_cell BK6.out 3).trans rfl; have hc4 : w6.cell? ⟨gb, 4, none⟩ = some (.slice A1_4 n1 c1_4) := (blk_cell BK6.out 4).trans rfl; have hd0 : w6.cell? ⟨g9, 0, none⟩ = some (.int .i64 0) := (blk_cell BR6.out 0).trans rfl; have hd1 : w6.cell? ⟨g9, 1, none⟩ = some (.int .i64 0) := (blk_cell BR6.out 1).trans rfl; have hd2 : w6.cell? ⟨g9, 2, none⟩ = some (.int .i64 0) := (blk_cell BR6.out 2).trans rfl; have hd3 : w6.cell? ⟨g9, 3, none⟩ = some (.int .i64 0) := (blk_cell BR6.out 3).trans rfl; have hd4 : w6.cell? ⟨g9, 4, none⟩ = some (.int .i64 0) := (blk_cell BR6.out 4).trans rfl; have hf0 := blk_frozen BR6.out 0; have hf1 := blk_frozen BR6.out 1; have hf2 := blk_frozen BR6.out 2; have hf3 := blk_frozen BR6.out 3; have hf4 := blk_frozen BR6.out 4) | ((with_reducible refine gate_store (t := 44) (p := 9) rfl ?_); refine store_event (t := 44) (p := 9) (v := ?vo_3) (w1 := (((((w6.setCell ⟨g9, 0, none⟩ (.int .i64 a1_1)).setCell ⟨g9, 1, none⟩ (.int .i64 a1_2)).setCell ⟨g9, 2, none⟩ (.int .i64 a1_3)).setCell ⟨g9, 3, none⟩ (.int .i64 (n1 : Int))).setCell ⟨g9, 4, none⟩ (.int .i64 a2))) ?hg ?ho ?hn ?hr ?_; (case ho => rfl); (case hg => rfl); (case hn => rfl); (case hr => first | (go_simp; done) | (go_simp; rfl)); intro w7 hw; have HB7 : Aside0 (Below W5.heap.size W5 w7) := ⟨by rw [hw]; exact (((((HB6.out.setCell HG9.out _).setCell HG9.out _).setCell HG9.out _).setCell HG9.out _).setCell HG9.out _)⟩; have BR7 : Aside0 (w7.heap[g9]? = some (.cells #[.int .i64 a1_1, .int .i64 a1_2, .int .i64 a1_3, .int .i64 (n1 : Int), .int .i64 a2] 44 (0, 0))) := ⟨by rw [hw]; exact (blk_put (blk_put (blk_put (blk_put (blk_put BR6.out 0 (.int .i64 a1_1) rfl) 1 (.int .i64 a1_2) rfl) 2 (.int .i64 a1_3) rfl) 3 (.int .i64 (n1 : Int)) rfl) 4 (.int .i64 a2) rfl)⟩; clear hw hc0 hc1 hc2 hc3 hc4 hd0 hd1 hd2 hd3 hd4 hf0 hf1 hf2 hf3 hf4 BR6 BK6 HB6; have BK7 := Aside0.mk (blk_below BK5.out HB7.out); have HR7 := Aside0.mk (Kd.R_below HR5.out HB7.out); have hc0 : w7.cell? ⟨gb, 0, none⟩ = some (.int .i64 a1_0) := (blk_cell BK7.out 0).trans rfl; have hc2 : w7.cell? ⟨gb, 2, none⟩ = some (.int .i64 a1_2) := (blk_cell BK7.out 2).trans rfl; have hd0 : w7.cell? ⟨g9, 0, none⟩ = some (.int .i64 a1_1) := (blk_cell BR7.out 0).trans rfl; have hd1 : w7.cell? ⟨g9, 1, none⟩ = some (.int .i64 a1_2) := (blk_cell BR7.out 1).trans rfl; have hd2 : w7.cell? ⟨g9, 2, none⟩ = some (.int .i64 a1_3) := (blk_cell BR7.out 2).trans rfl; have hd3 : w7.cell? ⟨g9, 3, none⟩ = some (.int .i64 (n1 : Int)) := (blk_cell BR7.out 3).trans rfl; have hd4 : w7.cell? ⟨g9, 4, none⟩ = some (.int .i64 a2) := (blk_cell BR7.out 4).trans rfl; have hf2 := blk_frozen BR7.out 2; have hf3 := blk_frozen BR7.out 3) | (go_at_call 23; fail))
      go_quiet (fail)
      generalize hW8 : ((w7.setCell ⟨g9, 2, none⟩ (Value.int IntKind.i64 0)).setCell ⟨g9, 3, none⟩ (Value.int IntKind.i64 0)).drewN nq = W8
      have HB8 : Aside0 (Below W5.heap.size W5 W8) := ⟨by rw [← hW8]; exact pw_below_drewN ((HB7.out.setCell HG9.out _).setCell HG9.out _) _⟩
      have BR8 : Aside0 (W8.heap[g9]? = some (.cells #[.int .i64 a1_1, .int .i64 a1_2, .int .i64 0, .int .i64 0, .int .i64 a2] 44 (0, 0))) := ⟨by rw [← hW8]; exact blk_drewN (blk_put (blk_put BR7.out 2 _ rfl) 3 _ rfl) _⟩
      clear hW8 hc0 hc2 hd0 hd1 hd2 hd3 hd4 hf2 hf3 BR7 BK7 HB7 HR7
      have HB7 := HB8
      have HR7 := Aside0.mk (Kd.R_below HR5.out HB8.out)
      have hd0 : W8.cell? ⟨g9, 0, none⟩ = some (.int .i64 a1_1) := (blk_cell BR8.out 0).trans rfl
      have hd1 : W8.cell? ⟨g9, 1, none⟩ = some (.int .i64 a1_2) := (blk_cell BR8.out 1).trans rfl
      have hd2 : W8.cell? ⟨g9, 2, none⟩ = some (.int .i64 0) := (blk_cell BR8.out 2).trans rfl
      have hd3 : W8.cell? ⟨g9, 3, none⟩ = some (.int .i64 0) := (blk_cell BR8.out 3).trans rfl
      have hd4 : W8.cell? ⟨g9, 4, none⟩ = some (.int .i64 a2) := (blk_cell BR8.out 4).trans rfl
      go_wp2_with (fail)
      have hlt7 : ∀ k, (Value.slice A4 l0.length c4).ownBlock = some k → k < W8.heap.size := fun k hk => own_lt (Kd.R_own HR7.out).choose_spec k hk
      have hge7 : ∀ k, (Value.slice A4 l0.length c4).ownBlock = some k → w.heap.size ≤ k := fun k hk => own_base (Kd.R_own HR7.out).choose_spec k hk
      have hz7 : w.heap.size ≤ W8.heap.size := (below_step HB5.out HB7.out).size
      have hl6 := HL6.out
      refine (ins44 w.heap.size _ l0 q ⟨a1_1, a1_2, 0, 0, a2⟩ _ 44 _ (Kd.R_alloc HR7.out _) (by simp; omega) HQL.out (by omega) (blk_new _ _) (fun e => absurd (hlt7 _ e) (Nat.lt_irrefl _))).mono ?_
      rintro e w9 ⟨v2, rfl, hr2, hgr, _⟩
      have HB9 : Aside0 (Below w.heap.size w w9) := ⟨(below_alloc (below_step HB5.out HB7.out) _).grown hgr (by simp; omega) (fun k hk => hge7 k hk)⟩
      have HR9 := Aside0.mk hr2
      clear hr2 hgr hlt7 hge7 hz7 hl6
      go_wp2
      go_ret
      exact ⟨v2, rfl, by rw [← H.out]; exact HR9.out, HB9.out⟩
    · have hkb : decide (2 < a1_0) = false := decide_eq_false hk
      rw [dedup_Note.row, if_neg hk] at h
      have H := Aside0.mk h
      clear h hi0 hil2 hl hk
      have huB := Try.underlying25
      have huP := Try.underlying44
      go_enter Try.func13, Try.ntmps13
      go_wp2_with (first | ((with_reducible refine gate_dst (N := 4) rfl ?_); refine box_event ?hg (N := 4) ?hd (cs := #[.int .i64 a1_0, .int .i64 a1_1, .int .i64 a1_2, .int .i64 a1_3, .slice A1_4 n1 c1_4]) (t := 25) ?hr ?_; (case hd => rfl); (case hg => rfl); (case hr => first | (go_simp; done) | (go_simp; rfl)); intro gb hg w1 hbox hb; have HB1 := Aside0.mk hb; have BK := Aside0.mk hbox; have GW : w.heap.size ≤ gb := (by rw [hg]; exact Nat.le_refl _); clear hb hbox hg) | (go_at_call 22; fail))
      have hb40 : l0.length * 40 ≤ 140737488355328 := by have := HL6.out; omega
      refine (clone44 _ _ l0 _ (Kd.C_below HR.out HB1.out) HC.out hb40).mono ?_
      rintro e W4 ⟨v1, rfl, hr, hb⟩
      have HB4 := Aside0.mk (below_step HB1.out hb)
      have BK4 := Aside0.mk (blk_below BK.out hb)
      have hgb4 : gb < w1.heap.size := blk_lt BK.out
      have HZ1 := Aside0.mk HB1.out.size
      have hz14 : w1.heap.size ≤ W4.heap.size := hb.size
      clear hb hb40 HB1 BK
      obtain ⟨A4, c4, hv4, hlc4, hC4⟩ := Kd.R_reads hr
      subst hv4
      have HC4 := Aside0.mk hC4
      have HLC4 := Aside0.mk hlc4
      have HR4 := Aside0.mk (Kd.R_lower hr HZ1.out)
      have HAP := Aside0.mk (show ∀ k, (Value.slice A4 l0.length c4).ownBlock = some k → gb < k from fun k hk => Nat.lt_of_lt_of_le hgb4 (own_base (Kd.R_own hr).choose_spec k hk))
      clear hC4 hlc4 hr
      have hc0 : W4.cell? ⟨gb, 0, none⟩ = some (.int .i64 a1_0) := (blk_cell BK4.out 0).trans rfl
      have hc1 : W4.cell? ⟨gb, 1, none⟩ = some (.int .i64 a1_1) := (blk_cell BK4.out 1).trans rfl
      have hc2 : W4.cell? ⟨gb, 2, none⟩ = some (.int .i64 a1_2) := (blk_cell BK4.out 2).trans rfl
      have hc3 : W4.cell? ⟨gb, 3, none⟩ = some (.int .i64 a1_3) := (blk_cell BK4.out 3).trans rfl
      have hc4 : W4.cell? ⟨gb, 4, none⟩ = some (.slice A1_4 n1 c1_4) := (blk_cell BK4.out 4).trans rfl
      go_wp2_with (go_at_call 21; fail)
      refine (dedup_find.calls _ _ l0 a1_1 _ _ _ HC4.out HLC4.out HF.out).mono ?_
      rintro e W5 ⟨rfl, hb⟩
      have HB5 := Aside0.mk (below_step HB4.out hb)
      have BK5 := Aside0.mk (blk_below BK4.out hb)
      have HR5 := Aside0.mk (Kd.R_below HR4.out hb)
      have hz45 : W4.heap.size ≤ W5.heap.size := hb.size
      have hgb5 : gb < W5.heap.size := blk_lt BK5.out
      clear hb hc0 hc1 hc2 hc3 hc4 HC4 HLC4 HB4 BK4 HR4
      have hc0 : W5.cell? ⟨gb, 0, none⟩ = some (.int .i64 a1_0) := (blk_cell BK5.out 0).trans rfl
      have hc1 : W5.cell? ⟨gb, 1, none⟩ = some (.int .i64 a1_1) := (blk_cell BK5.out 1).trans rfl
      have hc2 : W5.cell? ⟨gb, 2, none⟩ = some (.int .i64 a1_2) := (blk_cell BK5.out 2).trans rfl
      have hc3 : W5.cell? ⟨gb, 3, none⟩ = some (.int .i64 a1_3) := (blk_cell BK5.out 3).trans rfl
      have hc4 : W5.cell? ⟨gb, 4, none⟩ = some (.slice A1_4 n1 c1_4) := (blk_cell BK5.out 4).trans rfl
      go_wp2_with (first | ((with_reducible refine gate_dst (N := 9) rfl ?_); refine box_event ?hg (N := 9) ?hd (cs := #[.int .i64 0, .int .i64 0, .int .i64 0, .int .i64 0, .int .i64 0]) (t := 44) ?hr ?_; (case hd => rfl); (case hg => rfl); (case hr => first | (go_simp; done) | (go_simp; rfl)); intro g9 hg w6 hbox hb; have HG9 := Aside0.mk (show W5.heap.size ≤ g9 from (by rw [hg]; exact Nat.le_refl _)); have HB6 := Aside0.mk hb; have BR6 := Aside0.mk hbox; have BK6 := Aside0.mk (blk_below BK5.out hb); clear hb hbox hg hc0 hc1 hc2 hc3 hc4; have hc0 : w6.cell? ⟨gb, 0, none⟩ = some (.int .i64 a1_0) := (blk_cell BK6.out 0).trans rfl; have hc1 : w6.cell? ⟨gb, 1, none⟩ = some (.int .i64 a1_1) := (blk_cell BK6.out 1).trans rfl; have hc2 : w6.cell? ⟨gb, 2, none⟩ = some (.int .i64 a1_2) := (blk_cell BK6.out 2).trans rfl; have hc3 : w6.cell? ⟨gb, 3, none⟩ = some (.int .i64 a1_3) := (blk_cell BK6.out 3).trans rfl; have hc4 : w6.cell? ⟨gb, 4, none⟩ = some (.slice A1_4 n1 c1_4) := (blk_cell BK6.out 4).trans rfl; have hd0 : w6.cell? ⟨g9, 0, none⟩ = some (.int .i64 0) := (blk_cell BR6.out 0).trans rfl; have hd1 : w6.cell? ⟨g9, 1, none⟩ = some (.int .i64 0) := (blk_cell BR6.out 1).trans rfl; have hd2 : w6.cell? ⟨g9, 2, none⟩ = some (.int .i64 0) := (blk_cell BR6.out 2).trans rfl; have hd3 : w6.cell? ⟨g9, 3, none⟩ = some (.int .i64 0) := (blk_cell BR6.out 3).trans rfl; have hd4 : w6.cell? ⟨g9, 4, none⟩ = some (.int .i64 0) := (blk_cell BR6.out 4).trans rfl; have hf0 := blk_frozen BR6.out 0; have hf1 := blk_frozen BR6.out 1; have hf2 := blk_frozen BR6.out 2; have hf3 := blk_frozen BR6.out 3; have hf4 := blk_frozen BR6.out 4) | ((with_reducible refine gate_store (t := 44) (p := 9) rfl ?_); refine store_event (t := 44) (p := 9) (v := ?vo_6) (w1 := (((((w6.setCell ⟨g9, 0, none⟩ (.int .i64 a1_1)).setCell ⟨g9, 1, none⟩ (.int .i64 a1_2)).setCell ⟨g9, 2, none⟩ (.int .i64 a1_3)).setCell ⟨g9, 3, none⟩ (.int .i64 (n1 : Int))).setCell ⟨g9, 4, none⟩ (.int .i64 a2))) ?hg ?ho ?hn ?hr ?_; (case ho => rfl); (case hg => rfl); (case hn => rfl); (case hr => first | (go_simp; done) | (go_simp; rfl)); intro w7 hw; have HB7 : Aside0 (Below W5.heap.size W5 w7) := ⟨by rw [hw]; exact (((((HB6.out.setCell HG9.out _).setCell HG9.out _).setCell HG9.out _).setCell HG9.out _).setCell HG9.out _)⟩; have BR7 : Aside0 (w7.heap[g9]? = some (.cells #[.int .i64 a1_1, .int .i64 a1_2, .int .i64 a1_3, .int .i64 (n1 : Int), .int .i64 a2] 44 (0, 0))) := ⟨by rw [hw]; exact (blk_put (blk_put (blk_put (blk_put (blk_put BR6.out 0 (.int .i64 a1_1) rfl) 1 (.int .i64 a1_2) rfl) 2 (.int .i64 a1_3) rfl) 3 (.int .i64 (n1 : Int)) rfl) 4 (.int .i64 a2) rfl)⟩; clear hw hc0 hc1 hc2 hc3 hc4 hd0 hd1 hd2 hd3 hd4 hf0 hf1 hf2 hf3 hf4 BR6 BK6 HB6; have BK7 := Aside0.mk (blk_below BK5.out HB7.out); have HR7 := Aside0.mk (Kd.R_below HR5.out HB7.out); have hc0 : w7.cell? ⟨gb, 0, none⟩ = some (.int .i64 a1_0) := (blk_cell BK7.out 0).trans rfl; have hc2 : w7.cell? ⟨gb, 2, none⟩ = some (.int .i64 a1_2) := (blk_cell BK7.out 2).trans rfl; have hd0 : w7.cell? ⟨g9, 0, none⟩ = some (.int .i64 a1_1) := (blk_cell BR7.out 0).trans rfl; have hd1 : w7.cell? ⟨g9, 1, none⟩ = some (.int .i64 a1_2) := (blk_cell BR7.out 1).trans rfl; have hd2 : w7.cell? ⟨g9, 2, none⟩ = some (.int .i64 a1_3) := (blk_cell BR7.out 2).trans rfl; have hd3 : w7.cell? ⟨g9, 3, none⟩ = some (.int .i64 (n1 : Int)) := (blk_cell BR7.out 3).trans rfl; have hd4 : w7.cell? ⟨g9, 4, none⟩ = some (.int .i64 a2) := (blk_cell BR7.out 4).trans rfl; have hf2 := blk_frozen BR7.out 2; have hf3 := blk_frozen BR7.out 3) | (go_at_call 23; fail))
      go_wp2_with (fail)
      have hlt7 : ∀ k, (Value.slice A4 l0.length c4).ownBlock = some k → k < w7.heap.size := fun k hk => own_lt (Kd.R_own HR7.out).choose_spec k hk
      have hge7 : ∀ k, (Value.slice A4 l0.length c4).ownBlock = some k → w.heap.size ≤ k := fun k hk => own_base (Kd.R_own HR7.out).choose_spec k hk
      have hz7 : w.heap.size ≤ w7.heap.size := (below_step HB5.out HB7.out).size
      have hl6 := HL6.out
      refine (ins44 w.heap.size _ l0 q ⟨a1_1, a1_2, a1_3, (n1 : Int), a2⟩ _ 44 _ (Kd.R_alloc HR7.out _) (by simp; omega) HQL.out (by omega) (blk_new _ _) (fun e => absurd (hlt7 _ e) (Nat.lt_irrefl _))).mono ?_
      rintro e w9 ⟨v2, rfl, hr2, hgr, _⟩
      have HB9 : Aside0 (Below w.heap.size w w9) := ⟨(below_alloc (below_step HB5.out HB7.out) _).grown hgr (by simp; omega) (fun k hk => hge7 k hk)⟩
      have HR9 := Aside0.mk hr2
      clear hr2 hgr hlt7 hge7 hz7 hl6
      go_wp2
      go_ret
      exact ⟨v2, rfl, by rw [← H.out]; exact HR9.out, HB9.out⟩
  | true =>
    have hqlt : q < l0.length := by have := hil2 rfl; omega
    have HQT := Aside0.mk hqlt
    rw [if_pos rfl] at h
    have hrd : rd_T44 l0 (q : Int) = l0[q]'hqlt := by simp [rd_T44, List.getD_eq_getElem?_getD, List.getElem?_eq_getElem hqlt]
    obtain ⟨⟨f0, f1, f2, f3, f4⟩, hx⟩ : ∃ x, x = rd_T44 l0 (q : Int) := ⟨_, rfl⟩
    rw [← hx] at h
    have HX := Aside0.mk (hx.trans hrd)
    dsimp only at h
    clear hx hrd hil2 hl hi0
    by_cases hk : a1_0 > 2
    · have hkb : decide (2 < a1_0) = true := decide_eq_true hk
      by_cases he : a1_2 ≤ f1
      · have heb : decide (a1_2 ≤ f1) = true := decide_eq_true he
        rw [if_pos ⟨hk, he⟩] at h
        have H := Aside0.mk h
        clear h hk he
        have huB := Try.underlying25
        have huP := Try.underlying44
        go_enter Try.func13, Try.ntmps13
        go_wp2_with (first | ((with_reducible refine gate_dst (N := 4) rfl ?_); refine box_event ?hg (N := 4) ?hd (cs := #[.int .i64 a1_0, .int .i64 a1_1, .int .i64 a1_2, .int .i64 a1_3, .slice A1_4 n1 c1_4]) (t := 25) ?hr ?_; (case hd => rfl); (case hg => rfl); (case hr => first | (go_simp; done) | (go_simp; rfl)); intro gb hg w1 hbox hb; have HB1 := Aside0.mk hb; have BK := Aside0.mk hbox; have GW : w.heap.size ≤ gb := (by rw [hg]; exact Nat.le_refl _); clear hb hbox hg) | (go_at_call 22; fail))
        have hb40 : l0.length * 40 ≤ 140737488355328 := by have := HL6.out; omega
        refine (clone44 _ _ l0 _ (Kd.C_below HR.out HB1.out) HC.out hb40).mono ?_
        rintro e W4 ⟨v1, rfl, hr, hb⟩
        have HB4 := Aside0.mk (below_step HB1.out hb)
        have BK4 := Aside0.mk (blk_below BK.out hb)
        have hgb4 : gb < w1.heap.size := blk_lt BK.out
        have HZ1 := Aside0.mk HB1.out.size
        have hz14 : w1.heap.size ≤ W4.heap.size := hb.size
        clear hb hb40 HB1 BK
        obtain ⟨A4, c4, hv4, hlc4, hC4⟩ := Kd.R_reads hr
        subst hv4
        have HC4 := Aside0.mk hC4
        have HLC4 := Aside0.mk hlc4
        have HR4 := Aside0.mk (Kd.R_lower hr HZ1.out)
        have HAP := Aside0.mk (show ∀ k, (Value.slice A4 l0.length c4).ownBlock = some k → gb < k from fun k hk => Nat.lt_of_lt_of_le hgb4 (own_base (Kd.R_own hr).choose_spec k hk))
        clear hC4 hlc4 hr
        have hc0 : W4.cell? ⟨gb, 0, none⟩ = some (.int .i64 a1_0) := (blk_cell BK4.out 0).trans rfl
        have hc1 : W4.cell? ⟨gb, 1, none⟩ = some (.int .i64 a1_1) := (blk_cell BK4.out 1).trans rfl
        have hc2 : W4.cell? ⟨gb, 2, none⟩ = some (.int .i64 a1_2) := (blk_cell BK4.out 2).trans rfl
        have hc3 : W4.cell? ⟨gb, 3, none⟩ = some (.int .i64 a1_3) := (blk_cell BK4.out 3).trans rfl
        have hc4 : W4.cell? ⟨gb, 4, none⟩ = some (.slice A1_4 n1 c1_4) := (blk_cell BK4.out 4).trans rfl
        go_wp2_with (go_at_call 21; fail)
        refine (dedup_find.calls _ _ l0 a1_1 _ _ _ HC4.out HLC4.out HF.out).mono ?_
        rintro e W5 ⟨rfl, hb⟩
        have HB5 := Aside0.mk (below_step HB4.out hb)
        have BK5 := Aside0.mk (blk_below BK4.out hb)
        have HR5 := Aside0.mk (Kd.R_below HR4.out hb)
        have hz45 : W4.heap.size ≤ W5.heap.size := hb.size
        have hgb5 : gb < W5.heap.size := blk_lt BK5.out
        clear hb hc0 hc1 hc2 hc3 hc4 HC4 HLC4 HB4 BK4 HR4
        have hc0 : W5.cell? ⟨gb, 0, none⟩ = some (.int .i64 a1_0) := (blk_cell BK5.out 0).trans rfl
        have hc1 : W5.cell? ⟨gb, 1, none⟩ = some (.int .i64 a1_1) := (blk_cell BK5.out 1).trans rfl
        have hc2 : W5.cell? ⟨gb, 2, none⟩ = some (.int .i64 a1_2) := (blk_cell BK5.out 2).trans rfl
        have hc3 : W5.cell? ⟨gb, 3, none⟩ = some (.int .i64 a1_3) := (blk_cell BK5.out 3).trans rfl
        have hc4 : W5.cell? ⟨gb, 4, none⟩ = some (.slice A1_4 n1 c1_4) := (blk_cell BK5.out 4).trans rfl
        obtain ⟨g, c, cur, hv, hg1, hg2, hg3, hg4, hg5, hg6⟩ := Sl.R_open flat44 HR5.out (Nat.lt_of_le_of_lt (Nat.zero_le _) HQT.out)
        injection hv with hv1 _ hv2
        subst hv1
        subst hv2
        have HROW5 : Aside0 (row44 W5 g (l0.set q ⟨f0, f1, f2, f3, f4⟩) c4) := ⟨⟨cur, hg2, hg5, by rw [show (⟨f0, f1, f2, f3, f4⟩ : S44) = l0[q]'HQT.out from HX.out, List.set_getElem_self]; exact hg6⟩⟩
        have HG1 := Aside0.mk hg1
        have HG4 := Aside0.mk (And.intro hg3 hg4)
        have HGL := Aside0.mk (blk_lt hg2)
        clear hg1 hg2 hg3 hg4 hg5 hg6
        have hix : (q : Int) < (l0.length : Int) := by have := HQT.out; omega
        have hi0 : (0 : Int) ≤ (q : Int) := by omega
        have hx1 : W5.cell? ⟨g, q * 5 + 1, none⟩ = some (.int .i64 f1) := row_cell44 HROW5.out HQT.out 1 (by omega) _ rfl
        have hxo1 : ∀ o, (W5.alloc o).cell? ⟨g, q * 5 + 1, none⟩ = some (.int .i64 f1) := fun o => (World.cell?_alloc_lt _ _ _ HGL.out).trans hx1
        go_wp2_with (fail)
        go_quiet (fail)
        go_wp2
        go_ret
        exact ⟨.slice (some ⟨g, 0, none⟩) l0.length c4, rfl, by rw [← H.out]; exact Kd.R_drewN (Kd.R_alloc HR5.out _) _, pw_below_drewN (below_alloc HB5.out _) _⟩
      · have heb : decide (a1_2 ≤ f1) = false := decide_eq_false he
        rw [if_neg (fun h => he h.2), dedup_Note.row, if_pos hk] at h
        have H := Aside0.mk h
        clear h hk he
        have huB := Try.underlying25
        have huP := Try.underlying44
        go_enter Try.func13, Try.ntmps13
        go_wp2_with (first | ((with_reducible refine gate_dst (N := 4) rfl ?_); refine box_event ?hg (N := 4) ?hd (cs := #[.int .i64 a1_0, .int .i64 a1_1, .int .i64 a1_2, .int .i64 a1_3, .slice A1_4 n1 c1_4]) (t := 25) ?hr ?_; (case hd => rfl); (case hg => rfl); (case hr => first | (go_simp; done) | (go_simp; rfl)); intro gb hg w1 hbox hb; have HB1 := Aside0.mk hb; have BK := Aside0.mk hbox; have GW : w.heap.size ≤ gb := (by rw [hg]; exact Nat.le_refl _); clear hb hbox hg) | (go_at_call 22; fail))
        have hb40 : l0.length * 40 ≤ 140737488355328 := by have := HL6.out; omega
        refine (clone44 _ _ l0 _ (Kd.C_below HR.out HB1.out) HC.out hb40).mono ?_
        rintro e W4 ⟨v1, rfl, hr, hb⟩
        have HB4 := Aside0.mk (below_step HB1.out hb)
        have BK4 := Aside0.mk (blk_below BK.out hb)
        have hgb4 : gb < w1.heap.size := blk_lt BK.out
        have HZ1 := Aside0.mk HB1.out.size
        have hz14 : w1.heap.size ≤ W4.heap.size := hb.size
        clear hb hb40 HB1 BK
        obtain ⟨A4, c4, hv4, hlc4, hC4⟩ := Kd.R_reads hr
        subst hv4
        have HC4 := Aside0.mk hC4
        have HLC4 := Aside0.mk hlc4
        have HR4 := Aside0.mk (Kd.R_lower hr HZ1.out)
        have HAP := Aside0.mk (show ∀ k, (Value.slice A4 l0.length c4).ownBlock = some k → gb < k from fun k hk => Nat.lt_of_lt_of_le hgb4 (own_base (Kd.R_own hr).choose_spec k hk))
        clear hC4 hlc4 hr
        have hc0 : W4.cell? ⟨gb, 0, none⟩ = some (.int .i64 a1_0) := (blk_cell BK4.out 0).trans rfl
        have hc1 : W4.cell? ⟨gb, 1, none⟩ = some (.int .i64 a1_1) := (blk_cell BK4.out 1).trans rfl
        have hc2 : W4.cell? ⟨gb, 2, none⟩ = some (.int .i64 a1_2) := (blk_cell BK4.out 2).trans rfl
        have hc3 : W4.cell? ⟨gb, 3, none⟩ = some (.int .i64 a1_3) := (blk_cell BK4.out 3).trans rfl
        have hc4 : W4.cell? ⟨gb, 4, none⟩ = some (.slice A1_4 n1 c1_4) := (blk_cell BK4.out 4).trans rfl
        go_wp2_with (go_at_call 21; fail)
        refine (dedup_find.calls _ _ l0 a1_1 _ _ _ HC4.out HLC4.out HF.out).mono ?_
        rintro e W5 ⟨rfl, hb⟩
        have HB5 := Aside0.mk (below_step HB4.out hb)
        have BK5 := Aside0.mk (blk_below BK4.out hb)
        have HR5 := Aside0.mk (Kd.R_below HR4.out hb)
        have hz45 : W4.heap.size ≤ W5.heap.size := hb.size
        have hgb5 : gb < W5.heap.size := blk_lt BK5.out
        clear hb hc0 hc1 hc2 hc3 hc4 HC4 HLC4 HB4 BK4 HR4
        have hc0 : W5.cell? ⟨gb, 0, none⟩ = some (.int .i64 a1_0) := (blk_cell BK5.out 0).trans rfl
        have hc1 : W5.cell? ⟨gb, 1, none⟩ = some (.int .i64 a1_1) := (blk_cell BK5.out 1).trans rfl
        have hc2 : W5.cell? ⟨gb, 2, none⟩ = some (.int .i64 a1_2) := (blk_cell BK5.out 2).trans rfl
        have hc3 : W5.cell? ⟨gb, 3, none⟩ = some (.int .i64 a1_3) := (blk_cell BK5.out 3).trans rfl
        have hc4 : W5.cell? ⟨gb, 4, none⟩ = some (.slice A1_4 n1 c1_4) := (blk_cell BK5.out 4).trans rfl
        obtain ⟨g, c, cur, hv, hg1, hg2, hg3, hg4, hg5, hg6⟩ := Sl.R_open flat44 HR5.out (Nat.lt_of_le_of_lt (Nat.zero_le _) HQT.out)
        injection hv with hv1 _ hv2
        subst hv1
        subst hv2
        have HROW5 : Aside0 (row44 W5 g (l0.set q ⟨f0, f1, f2, f3, f4⟩) c4) := ⟨⟨cur, hg2, hg5, by rw [show (⟨f0, f1, f2, f3, f4⟩ : S44) = l0[q]'HQT.out from HX.out, List.set_getElem_self]; exact hg6⟩⟩
        have HG1 := Aside0.mk hg1
        have HG4 := Aside0.mk (And.intro hg3 hg4)
        have HGL := Aside0.mk (blk_lt hg2)
        clear hg1 hg2 hg3 hg4 hg5 hg6
        have hix : (q : Int) < (l0.length : Int) := by have := HQT.out; omega
        have hi0 : (0 : Int) ≤ (q : Int) := by omega
        have hx1 : W5.cell? ⟨g, q * 5 + 1, none⟩ = some (.int .i64 f1) := row_cell44 HROW5.out HQT.out 1 (by omega) _ rfl
        have hxo1 : ∀ o, (W5.alloc o).cell? ⟨g, q * 5 + 1, none⟩ = some (.int .i64 f1) := fun o => (World.cell?_alloc_lt _ _ _ HGL.out).trans hx1
        go_wp2_with (fail)
        go_quiet (fail)
        generalize hW8 : (W5.alloc (.cells #[.int .i64 a1_1, .int .i64 a1_2, .int .i64 0, .int .i64 0, .int .i64 a2] 44)).drewN nq = W8
        have HB7 : Aside0 (Below W5.heap.size W5 W8) := ⟨by rw [← hW8]; exact pw_below_drewN (below_alloc (Below.refl _ _) _) _⟩
        have BR8 : Aside0 (W8.heap[W5.heap.size]? = some (.cells #[.int .i64 a1_1, .int .i64 a1_2, .int .i64 0, .int .i64 0, .int .i64 a2] 44 (0, 0))) := ⟨by rw [← hW8]; exact blk_drewN (blk_new _ _) _⟩
        clear hx1 hxo1 hW8 hc0 hc1 hc2 hc3 hc4
        have hd0 : W8.cell? ⟨W5.heap.size, 0, none⟩ = some (.int .i64 a1_1) := (blk_cell BR8.out 0).trans rfl
        have hd1 : W8.cell? ⟨W5.heap.size, 1, none⟩ = some (.int .i64 a1_2) := (blk_cell BR8.out 1).trans rfl
        have hd2 : W8.cell? ⟨W5.heap.size, 2, none⟩ = some (.int .i64 0) := (blk_cell BR8.out 2).trans rfl
        have hd3 : W8.cell? ⟨W5.heap.size, 3, none⟩ = some (.int .i64 0) := (blk_cell BR8.out 3).trans rfl
        have hd4 : W8.cell? ⟨W5.heap.size, 4, none⟩ = some (.int .i64 a2) := (blk_cell BR8.out 4).trans rfl
        have HROWX : Aside0 (row44 W8 g (l0.set q ⟨f0, f1, f2, f3, f4⟩) c4) := ⟨row_below44 HROW5.out HB7.out⟩
        have HBX := Aside0.mk (below_step HB5.out HB7.out)
        have hx0 : W8.cell? ⟨g, q * 5, none⟩ = some (.int .i64 f0) := row_cell44 HROWX.out HQT.out 0 (by omega) _ rfl
        have hg0 : W8.frozen? ⟨g, q * 5, none⟩ = false := row_frozen44 HROWX.out _
        have hx1 : W8.cell? ⟨g, q * 5 + 1, none⟩ = some (.int .i64 f1) := row_cell44 HROWX.out HQT.out 1 (by omega) _ rfl
        have hg1 : W8.frozen? ⟨g, q * 5 + 1, none⟩ = false := row_frozen44 HROWX.out _
        have hx2 : W8.cell? ⟨g, q * 5 + 2, none⟩ = some (.int .i64 f2) := row_cell44 HROWX.out HQT.out 2 (by omega) _ rfl
        have hg2 : W8.frozen? ⟨g, q * 5 + 2, none⟩ = false := row_frozen44 HROWX.out _
        have hx3 : W8.cell? ⟨g, q * 5 + 3, none⟩ = some (.int .i64 f3) := row_cell44 HROWX.out HQT.out 3 (by omega) _ rfl
        have hg3 : W8.frozen? ⟨g, q * 5 + 3, none⟩ = false := row_frozen44 HROWX.out _
        have hx4 : W8.cell? ⟨g, q * 5 + 4, none⟩ = some (.int .i64 f4) := row_cell44 HROWX.out HQT.out 4 (by omega) _ rfl
        have hg4 : W8.frozen? ⟨g, q * 5 + 4, none⟩ = false := row_frozen44 HROWX.out _
        go_wp2_with ((with_reducible refine gate_store (t := 44) (p := 61) rfl ?_); refine store_event (t := 44) (p := 61) (v := ?vo_2) (w1 := (((((W8.setCell ⟨g, q * 5, none⟩ (.int .i64 a1_1)).setCell ⟨g, q * 5 + 1, none⟩ (.int .i64 a1_2)).setCell ⟨g, q * 5 + 2, none⟩ (.int .i64 0)).setCell ⟨g, q * 5 + 3, none⟩ (.int .i64 0)).setCell ⟨g, q * 5 + 4, none⟩ (.int .i64 a2))) ?hg ?ho ?hn ?hr ?_; (case ho => rfl); (case hg => rfl); (case hn => rfl); (case hr => first | (go_simp; done) | (go_simp; rfl)); intro w9 hw; have HROW9 : Aside0 (row44 w9 g (l0.set q ⟨a1_1, a1_2, 0, 0, a2⟩) c4) := ⟨by rw [hw]; exact (row_set44 (row_set44 (row_set44 (row_set44 (row_set44 HROWX.out HQT.out 0 (by omega) (.int .i64 a1_1) ⟨a1_1, f1, f2, f3, f4⟩ rfl) HQT.out 1 (by omega) (.int .i64 a1_2) ⟨a1_1, a1_2, f2, f3, f4⟩ rfl) HQT.out 2 (by omega) (.int .i64 0) ⟨a1_1, a1_2, 0, f3, f4⟩ rfl) HQT.out 3 (by omega) (.int .i64 0) ⟨a1_1, a1_2, 0, 0, f4⟩ rfl) HQT.out 4 (by omega) (.int .i64 a2) ⟨a1_1, a1_2, 0, 0, a2⟩ rfl)⟩; have HB9 : Aside0 (Below w.heap.size w w9) := ⟨by rw [hw]; exact (below_set (below_set (below_set (below_set (below_set HBX.out HG1.out) HG1.out) HG1.out) HG1.out) HG1.out)⟩; clear hw)
        go_ret
        have hfin := row_R44 HROW9.out HG1.out (by rw [List.length_set]; exact HG4.out.1) HG4.out.2
        rw [List.length_set] at hfin
        exact ⟨.slice (some ⟨g, 0, none⟩) l0.length c4, rfl, by rw [← H.out]; exact hfin, HB9.out⟩
    · have hkb : decide (2 < a1_0) = false := decide_eq_false hk
      rw [if_neg (fun h => hk h.1), dedup_Note.row, if_neg hk] at h
      have H := Aside0.mk h
      clear h hk
      have huB := Try.underlying25
      have huP := Try.underlying44
      go_enter Try.func13, Try.ntmps13
      go_wp2_with (first | ((with_reducible refine gate_dst (N := 4) rfl ?_); refine box_event ?hg (N := 4) ?hd (cs := #[.int .i64 a1_0, .int .i64 a1_1, .int .i64 a1_2, .int .i64 a1_3, .slice A1_4 n1 c1_4]) (t := 25) ?hr ?_; (case hd => rfl); (case hg => rfl); (case hr => first | (go_simp; done) | (go_simp; rfl)); intro gb hg w1 hbox hb; have HB1 := Aside0.mk hb; have BK := Aside0.mk hbox; have GW : w.heap.size ≤ gb := (by rw [hg]; exact Nat.le_refl _); clear hb hbox hg) | (go_at_call 22; fail))
      have hb40 : l0.length * 40 ≤ 140737488355328 := by have := HL6.out; omega
      refine (clone44 _ _ l0 _ (Kd.C_below HR.out HB1.out) HC.out hb40).mono ?_
      rintro e W4 ⟨v1, rfl, hr, hb⟩
      have HB4 := Aside0.mk (below_step HB1.out hb)
      have BK4 := Aside0.mk (blk_below BK.out hb)
      have hgb4 : gb < w1.heap.size := blk_lt BK.out
      have HZ1 := Aside0.mk HB1.out.size
      have hz14 : w1.heap.size ≤ W4.heap.size := hb.size
      clear hb hb40 HB1 BK
      obtain ⟨A4, c4, hv4, hlc4, hC4⟩ := Kd.R_reads hr
      subst hv4
      have HC4 := Aside0.mk hC4
      have HLC4 := Aside0.mk hlc4
      have HR4 := Aside0.mk (Kd.R_lower hr HZ1.out)
      have HAP := Aside0.mk (show ∀ k, (Value.slice A4 l0.length c4).ownBlock = some k → gb < k from fun k hk => Nat.lt_of_lt_of_le hgb4 (own_base (Kd.R_own hr).choose_spec k hk))
      clear hC4 hlc4 hr
      have hc0 : W4.cell? ⟨gb, 0, none⟩ = some (.int .i64 a1_0) := (blk_cell BK4.out 0).trans rfl
      have hc1 : W4.cell? ⟨gb, 1, none⟩ = some (.int .i64 a1_1) := (blk_cell BK4.out 1).trans rfl
      have hc2 : W4.cell? ⟨gb, 2, none⟩ = some (.int .i64 a1_2) := (blk_cell BK4.out 2).trans rfl
      have hc3 : W4.cell? ⟨gb, 3, none⟩ = some (.int .i64 a1_3) := (blk_cell BK4.out 3).trans rfl
      have hc4 : W4.cell? ⟨gb, 4, none⟩ = some (.slice A1_4 n1 c1_4) := (blk_cell BK4.out 4).trans rfl
      go_wp2_with (go_at_call 21; fail)
      refine (dedup_find.calls _ _ l0 a1_1 _ _ _ HC4.out HLC4.out HF.out).mono ?_
      rintro e W5 ⟨rfl, hb⟩
      have HB5 := Aside0.mk (below_step HB4.out hb)
      have BK5 := Aside0.mk (blk_below BK4.out hb)
      have HR5 := Aside0.mk (Kd.R_below HR4.out hb)
      have hz45 : W4.heap.size ≤ W5.heap.size := hb.size
      have hgb5 : gb < W5.heap.size := blk_lt BK5.out
      clear hb hc0 hc1 hc2 hc3 hc4 HC4 HLC4 HB4 BK4 HR4
      have hc0 : W5.cell? ⟨gb, 0, none⟩ = some (.int .i64 a1_0) := (blk_cell BK5.out 0).trans rfl
      have hc1 : W5.cell? ⟨gb, 1, none⟩ = some (.int .i64 a1_1) := (blk_cell BK5.out 1).trans rfl
      have hc2 : W5.cell? ⟨gb, 2, none⟩ = some (.int .i64 a1_2) := (blk_cell BK5.out 2).trans rfl
      have hc3 : W5.cell? ⟨gb, 3, none⟩ = some (.int .i64 a1_3) := (blk_cell BK5.out 3).trans rfl
      have hc4 : W5.cell? ⟨gb, 4, none⟩ = some (.slice A1_4 n1 c1_4) := (blk_cell BK5.out 4).trans rfl
      obtain ⟨g, c, cur, hv, hg1, hg2, hg3, hg4, hg5, hg6⟩ := Sl.R_open flat44 HR5.out (Nat.lt_of_le_of_lt (Nat.zero_le _) HQT.out)
      injection hv with hv1 _ hv2
      subst hv1
      subst hv2
      have HROW5 : Aside0 (row44 W5 g (l0.set q ⟨f0, f1, f2, f3, f4⟩) c4) := ⟨⟨cur, hg2, hg5, by rw [show (⟨f0, f1, f2, f3, f4⟩ : S44) = l0[q]'HQT.out from HX.out, List.set_getElem_self]; exact hg6⟩⟩
      have HG1 := Aside0.mk hg1
      have HG4 := Aside0.mk (And.intro hg3 hg4)
      have HGL := Aside0.mk (blk_lt hg2)
      clear hg1 hg2 hg3 hg4 hg5 hg6
      have hix : (q : Int) < (l0.length : Int) := by have := HQT.out; omega
      have hi0 : (0 : Int) ≤ (q : Int) := by omega
      go_upto_region 12 with (fail)
      generalize hW8 : (W5.alloc (.cells #[.int .i64 a1_1, .int .i64 a1_2, .int .i64 a1_3, .int .i64 (n1 : Int), .int .i64 a2] 44)) = W8
      have HB7 : Aside0 (Below W5.heap.size W5 W8) := ⟨by rw [← hW8]; exact below_alloc (Below.refl _ _) _⟩
      have BR8 : Aside0 (W8.heap[W5.heap.size]? = some (.cells #[.int .i64 a1_1, .int .i64 a1_2, .int .i64 a1_3, .int .i64 (n1 : Int), .int .i64 a2] 44 (0, 0))) := ⟨by rw [← hW8]; exact blk_new _ _⟩
      clear hW8 hc0 hc1 hc2 hc3 hc4
      have hd0 : W8.cell? ⟨W5.heap.size, 0, none⟩ = some (.int .i64 a1_1) := (blk_cell BR8.out 0).trans rfl
      have hd1 : W8.cell? ⟨W5.heap.size, 1, none⟩ = some (.int .i64 a1_2) := (blk_cell BR8.out 1).trans rfl
      have hd2 : W8.cell? ⟨W5.heap.size, 2, none⟩ = some (.int .i64 a1_3) := (blk_cell BR8.out 2).trans rfl
      have hd3 : W8.cell? ⟨W5.heap.size, 3, none⟩ = some (.int .i64 (n1 : Int)) := (blk_cell BR8.out 3).trans rfl
      have hd4 : W8.cell? ⟨W5.heap.size, 4, none⟩ = some (.int .i64 a2) := (blk_cell BR8.out 4).trans rfl
      have HROWX : Aside0 (row44 W8 g (l0.set q ⟨f0, f1, f2, f3, f4⟩) c4) := ⟨row_below44 HROW5.out HB7.out⟩
      have HBX := Aside0.mk (below_step HB5.out HB7.out)
      have hx0 : W8.cell? ⟨g, q * 5, none⟩ = some (.int .i64 f0) := row_cell44 HROWX.out HQT.out 0 (by omega) _ rfl
      have hg0 : W8.frozen? ⟨g, q * 5, none⟩ = false := row_frozen44 HROWX.out _
      have hx1 : W8.cell? ⟨g, q * 5 + 1, none⟩ = some (.int .i64 f1) := row_cell44 HROWX.out HQT.out 1 (by omega) _ rfl
      have hg1 : W8.frozen? ⟨g, q * 5 + 1, none⟩ = false := row_frozen44 HROWX.out _
      have hx2 : W8.cell? ⟨g, q * 5 + 2, none⟩ = some (.int .i64 f2) := row_cell44 HROWX.out HQT.out 2 (by omega) _ rfl
      have hg2 : W8.frozen? ⟨g, q * 5 + 2, none⟩ = false := row_frozen44 HROWX.out _
      have hx3 : W8.cell? ⟨g, q * 5 + 3, none⟩ = some (.int .i64 f3) := row_cell44 HROWX.out HQT.out 3 (by omega) _ rfl
      have hg3 : W8.frozen? ⟨g, q * 5 + 3, none⟩ = false := row_frozen44 HROWX.out _
      have hx4 : W8.cell? ⟨g, q * 5 + 4, none⟩ = some (.int .i64 f4) := row_cell44 HROWX.out HQT.out 4 (by omega) _ rfl
      have hg4 : W8.frozen? ⟨g, q * 5 + 4, none⟩ = false := row_frozen44 HROWX.out _
      go_wp2_with ((with_reducible refine gate_store (t := 44) (p := 61) rfl ?_); refine store_event (t := 44) (p := 61) (v := ?vo_1) (w1 := (((((W8.setCell ⟨g, q * 5, none⟩ (.int .i64 a1_1)).setCell ⟨g, q * 5 + 1, none⟩ (.int .i64 a1_2)).setCell ⟨g, q * 5 + 2, none⟩ (.int .i64 a1_3)).setCell ⟨g, q * 5 + 3, none⟩ (.int .i64 (n1 : Int))).setCell ⟨g, q * 5 + 4, none⟩ (.int .i64 a2))) ?hg ?ho ?hn ?hr ?_; (case ho => rfl); (case hg => rfl); (case hn => rfl); (case hr => first | (go_simp; done) | (go_simp; rfl)); intro w9 hw; have HROW9 : Aside0 (row44 w9 g (l0.set q ⟨a1_1, a1_2, a1_3, (n1 : Int), a2⟩) c4) := ⟨by rw [hw]; exact (row_set44 (row_set44 (row_set44 (row_set44 (row_set44 HROWX.out HQT.out 0 (by omega) (.int .i64 a1_1) ⟨a1_1, f1, f2, f3, f4⟩ rfl) HQT.out 1 (by omega) (.int .i64 a1_2) ⟨a1_1, a1_2, f2, f3, f4⟩ rfl) HQT.out 2 (by omega) (.int .i64 a1_3) ⟨a1_1, a1_2, a1_3, f3, f4⟩ rfl) HQT.out 3 (by omega) (.int .i64 (n1 : Int)) ⟨a1_1, a1_2, a1_3, (n1 : Int), f4⟩ rfl) HQT.out 4 (by omega) (.int .i64 a2) ⟨a1_1, a1_2, a1_3, (n1 : Int), a2⟩ rfl)⟩; have HB9 : Aside0 (Below w.heap.size w w9) := ⟨by rw [hw]; exact (below_set (below_set (below_set (below_set (below_set HBX.out HG1.out) HG1.out) HG1.out) HG1.out) HG1.out)⟩; clear hw)
      go_ret
      have hfin := row_R44 HROW9.out HG1.out (by rw [List.length_set]; exact HG4.out.1) HG4.out.2
      rw [List.length_set] at hfin
      exact ⟨.slice (some ⟨g, 0, none⟩) l0.length c4, rfl, by rw [← H.out]; exact hfin, HB9.out⟩

end Go.Proofs.Ythoegjpcjclbjaa.P
