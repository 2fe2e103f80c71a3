-- Written by wip/mk.py of this repo: the kit's print program, with contracts of our own among its functions.
import Derived.Test.YtgfmbddkefjchaaPx0
import Derived.Test.YtgfmbddkefjchaaPx7
namespace Go.Proofs.Ytgfmbddkefjchaa.P
open Go.RowKit Go.Proofs.YtgfmbddkefjchaaW.PrintWords Go.Proofs.YtgfmbddkefjchaaW.PrintLast Go.Proofs.YtgfmbddkefjchaaW.PrintMore
attribute [local go_sem] max2_int min2_int max_two min_two max_three min_three max_four min_four   -- for this text's walks alone
set_option linter.unusedVariables false
set_option linter.unusedSimpArgs false

/-! ### frame_Row: function 20 -/
/-- The rows with which bytes begin, each with how many bytes it has. -/
def frame_Row.go (k : Nat) : Nat → ByteArray → Option (List (Int × S23))
  | 0, _ => none
  | m + 1, s => (frame_Take.f k s).bind fun t => if t.2.2.2.2 = 0 then (if t.2.2.2.1.size < s.size then (frame_Row.go k m t.2.2.2.1).bind (fun l => some ((wrap64 ((s.size : Int) - (t.2.2.2.1.size : Int)), (⟨t.1, t.2.1, t.2.2.1⟩ : S23)) :: l)) else none) else some []
theorem frame_Row.go_mono (k : Nat) : ∀ m s, LeO (frame_Row.go k m s) (frame_Row.go (k + 1) (m + 1) s)
  | 0, s => fun r h => by cases h
  | m + 1, s => by
    show LeO ((frame_Take.f k s).bind _) ((frame_Take.f (k + 1) s).bind _)
    refine LeO.bind (frame_Take.mono _ _) (fun t => ?_)
    by_cases c : t.2.2.2.2 = 0
    · rw [if_pos c, if_pos c]
      by_cases c2 : t.2.2.2.1.size < s.size
      · rw [if_pos c2, if_pos c2]
        exact LeO.bind (frame_Row.go_mono k m _) (fun _ => LeO.refl _)
      · rw [if_neg c2, if_neg c2]; exact LeO.refl _
    · rw [if_neg c, if_neg c]; exact LeO.refl _
def frame_Row.encs (x : Int × S23) : Array Value := #[.int .i64 x.1, .agg #[.int .i64 x.2.f0, .int .i64 x.2.f1, .string x.2.f2]]
/-- How long the text in a box is. -/
def frame_Row.long (W : World) (b : Nat) : Nat := match W.cell? ⟨b, 0, none⟩ with
  | some (.string s) => s.size
  | _ => 0
def frame_Row.box (W : World) (b : Nat) (s : ByteArray) : Prop := W.heap[b]? = some (.cells #[.string s] 9 (0, 0))
theorem frame_Row.box_cell {W : World} {b : Nat} {s : ByteArray} (h : frame_Row.box W b s) : W.cell? ⟨b, 0, none⟩ = some (.string s) := (blk_cell h 0).trans rfl
theorem frame_Row.box_long {W : World} {b : Nat} {s : ByteArray} (h : frame_Row.box W b s) : frame_Row.long W b = s.size := by
  unfold frame_Row.long
  rw [frame_Row.box_cell h]
namespace frame_Row_walk
attribute [local go_sem] Oper.semAt_some
set_option maxHeartbeats 8000000 in
set_option maxRecDepth 100000 in
theorem frame_Row.each (k m n : Nat) (hn : 2 ≤ n) (b : Nat) (s : ByteArray) (full : List (Int × S23)) (hf : frame_Row.go k m s = some full) (hs : s.size ≤ 1000000000000) :
    Rb.Gives Try.prog n 35 #[.pointer (some ⟨b, 0, none⟩)] frame_Row.encs b (fun W => frame_Row.box W b s) full := by
  intro l J Jx W hW hJ hJx hY h0
  refine callsIn_of_wp Try.func35 rfl trivial ?_ rfl
  simp only [Try.ntmps35, List.size_toArray, List.length_cons, List.length_nil, Nat.reduceAdd, Nat.reduceSub, Array.replicate_succ, Array.replicate_zero, List.push_toArray, List.append_toArray, List.nil_append, List.cons_append]
  have HJ := Aside0.mk hJ
  have HJX := Aside0.mk hJx
  have HY := Aside0.mk hY
  clear hJ hJx hY
  gi_wp2
  gi_loopw [4] (fun _ wr => ∃ (pre rest : List (Int × S23)) (s' : ByteArray) (m' : Nat), Aside0 (full = pre ++ rest) ∧ Aside0 (frame_Row.go k m' s' = some rest) ∧ Aside0 (frame_Row.box wr b s') ∧ Aside0 (J pre wr) ∧ s'.size ≤ 1000000000000) (fun _ wr => frame_Row.long wr b)
  case atStart => exact ⟨[], full, s, m, ⟨rfl⟩, ⟨hf⟩, ⟨hW⟩, ⟨h0⟩, hs⟩
  case round =>
    obtain ⟨pre, rest, s', m', HF, HG, HB, HJ0, hs'⟩ := hrel
    cases m' with
    | zero => exact absurd HG.out (by simp [frame_Row.go])
    | succ m' =>
      have hg := HG.out
      obtain ⟨⟨r1, r2, r3, r4, r5⟩, ht, hg⟩ := Option.bind_eq_some_iff.mp hg
      dsimp only at hg
      have HT := Aside0.mk ht
      clear HG ht
      have hc : wr.cell? ⟨b, 0, none⟩ = some (.string s') := frame_Row.box_cell HB.out
      by_cases h5 : r5 = 0
      · subst h5
        rw [if_pos rfl] at hg
        split at hg
        case isFalse => cases hg
        rename_i hlt
        obtain ⟨rest', hg', hg⟩ := Option.bind_eq_some_iff.mp hg
        have hqw : wrap64 ((s'.size : Int) - (r4.size : Int)) = (s'.size : Int) - (r4.size : Int) := by unfold wrap64; omega
        rw [hqw] at hg
        injection hg with hg
        subst hg
        have HG := Aside0.mk hg'
        clear hg' hqw
        gi_wp2_with (fail)
        refine ⟨trivial, (fun h => by cases h), (callsIn_wide.2 (frame_Take.calls k s' r1 r2 r3 r4 0 wr HT.out)).mono ?_⟩
        rintro e w2 ⟨rfl, hb⟩
        obtain ⟨W3, hW3⟩ : ∃ W3, W3 = w2.alloc (.cells #[.int .i64 r1, .int .i64 r2, .string r3] 23) := ⟨_, rfl⟩
        have HB3 : Aside0 (frame_Row.box W3 b s') := ⟨by rw [hW3]; exact blk_alloc (blk_below HB.out hb) _⟩
        have HE3 : Aside0 (W3.heap[w2.heap.size]? = some (.cells #[.int .i64 r1, .int .i64 r2, .string r3] 23 (0, 0))) := ⟨by rw [hW3]; exact blk_new _ _⟩
        have HJ3 : Aside0 (J pre W3) := ⟨HJ.out _ _ _ (HJ.out _ _ _ HJ0.out ⟨hb.os, hb.tape, hb.output, hb.size, fun j hj _ => hb.block j hj⟩ (Rb.tame (hb.block b (blk_lt HB.out)))) (by rw [hW3]; exact Rb.lay _ _ _) (by rw [hW3]; exact Rb.tameA _ _ _)⟩
        have hpre : (pre ++ [((s'.size : Int) - (r4.size : Int), (⟨r1, r2, r3⟩ : S23))]) <+: full := ⟨rest', by rw [HF.out, List.append_assoc]; rfl⟩
        obtain ⟨fn, tmps, assign, body, hy, hR⟩ := HY.out pre ((s'.size : Int) - (r4.size : Int), ⟨r1, r2, r3⟩) W3 HJ3.out hpre
        have HR := Aside0.mk hR
        dsimp only [frame_Row.encs] at hy
        have hc3 : W3.cell? ⟨b, 0, none⟩ = some (.string s') := frame_Row.box_cell HB3.out
        have he0 : W3.cell? ⟨w2.heap.size, 0, none⟩ = some (.int .i64 r1) := (blk_cell HE3.out 0).trans rfl
        have he1 : W3.cell? ⟨w2.heap.size, 1, none⟩ = some (.int .i64 r2) := (blk_cell HE3.out 1).trans rfl
        have he2 : W3.cell? ⟨w2.heap.size, 2, none⟩ = some (.string r3) := (blk_cell HE3.out 2).trans rfl
        clear hb hc hR hpre
        subst hW3
        gi_wp2
        refine ⟨(fun h => by cases h), HR.out.mono ?_⟩
        rintro e W4 ⟨hbx, hsz, (⟨rfl, hJ4⟩ | ⟨rfl, hJ4⟩)⟩
        · have HB4 : Aside0 (frame_Row.box W4 b s') := ⟨hbx.trans HB3.out⟩
          have HJ4 := Aside0.mk hJ4
          have hc4 : W4.cell? ⟨b, 0, none⟩ = some (.string s') := frame_Row.box_cell HB4.out
          have hf4 : W4.frozen? ⟨b, 0, none⟩ = false := blk_frozen HB4.out 0
          clear hbx hsz hJ4 hc3 he0 he1 he2 hy
          gi_wp2
          have HB5 : Aside0 (frame_Row.box (W4.setCell ⟨b, 0, none⟩ (.string r4)) b r4) := ⟨blk_put HB4.out 0 (.string r4) rfl⟩
          go_roundw
          case rel => exact ⟨pre ++ [((s'.size : Int) - (r4.size : Int), ⟨r1, r2, r3⟩)], rest', r4, m', ⟨by rw [HF.out, List.append_assoc]; rfl⟩, HG, HB5, ⟨HJ.out _ _ _ HJ4.out (grownBy_setCell' _ _ _) (fun u t hu => ⟨.string r4, by have e := HB4.out; unfold frame_Row.box at e; rw [hu] at e; injection e with e; injection e with _ e2; subst e2; exact HB5.out⟩)⟩, by omega⟩
          case measure => rw [frame_Row.box_long HB5.out, frame_Row.box_long HB.out]; exact hlt
        · have HJ4 := Aside0.mk hJ4
          clear hbx hsz hJ4 hc3 he0 he1 he2 hy
          gi_wp2
          refine bodyPost_ret (results_none rfl _ _ _) rfl ?_
          exact ⟨⟨_, rfl⟩, .inr ⟨_, ⟨rest', by rw [HF.out, List.append_assoc]; rfl⟩, HJ4.out⟩⟩
      · rw [if_neg h5] at hg
        injection hg with hg
        subst hg
        have h5b : (r5 != 0) = true := bne_iff_ne.2 h5
        gi_wp2_with (fail)
        refine ⟨trivial, (fun h => by cases h), (callsIn_wide.2 (frame_Take.calls k s' r1 r2 r3 r4 r5 wr HT.out)).mono ?_⟩
        rintro e w2 ⟨rfl, hb⟩
        have HJ3 : Aside0 (J pre (w2.alloc (.cells #[.int .i64 r1, .int .i64 r2, .string r3] 23))) := ⟨HJ.out _ _ _ (HJ.out _ _ _ HJ0.out ⟨hb.os, hb.tape, hb.output, hb.size, fun j hj _ => hb.block j hj⟩ (Rb.tame (hb.block b (blk_lt HB.out)))) (Rb.lay _ _ _) (Rb.tameA _ _ _)⟩
        clear hb hc h5
        gi_wp2
        refine ⟨fun _ h => (by cases h), ?_⟩
        gi_wp2
        refine bodyPost_ret (results_none rfl _ _ _) rfl ?_
        exact ⟨⟨_, rfl⟩, .inl (by rw [HF.out, List.append_nil]; exact HJ3.out)⟩
end frame_Row_walk
def frame_Row.enc (x : S23) : List Value := [.int .i64 x.f0, .int .i64 x.f1, .string x.f2]
theorem frame_Row.flat : Sl.Flat k23 frame_Row.enc :=
  ⟨fun w base ok x cs => ⟨fun h => k23_openM h, fun h => by subst h; exact k23_mkM w base ok x⟩, fun w x cs => ⟨fun h => k23_open h, fun h => by subst h; exact k23_mk w x⟩⟩
def frame_Row.sum (l : List (Int × S23)) : Int := l.foldl (fun a x => wrap64 (a + x.1)) 0
theorem frame_Row.sum_snoc (l : List (Int × S23)) (x : Int × S23) : frame_Row.sum (l ++ [x]) = wrap64 (frame_Row.sum l + x.1) := by
  unfold frame_Row.sum
  rw [List.foldl_append]; rfl
def frame_Row.f (k : Nat) (s : ByteArray) : Option (List S23 × Int) := (frame_Row.go k k s).bind fun l => if s.size ≤ 1000000000000 ∧ l.length ≤ 1000000 then some (l.map (fun x => x.2), frame_Row.sum l) else none
theorem frame_Row.mono : ∀ a0 k, LeO (frame_Row.f k a0) (frame_Row.f (k + 1) a0) := by
  intro a0 k
  unfold frame_Row.f
  exact LeO.bind (frame_Row.go_mono k k a0) (fun _ => LeO.refl _)
theorem frame_Row.info : (Try.prog.info? 23).map (fun i => (i.zero, i.size, i.bytes)) = some (some (.agg #[.int .i64 0, .int .i64 0, .string ByteArray.empty]), 3, 32) := by kernel_rfl
set_option maxHeartbeats 4000000 in
set_option maxRecDepth 100000 in
theorem frame_Row.made (s : ByteArray) (w : World) : Calls Try.prog 23 #[.string s] w fun e w' => e = .returned (.func (.func 35) #[] #[.pointer (some ⟨w.heap.size, 0, none⟩)]) ∧ w' = w.alloc (.cells #[.string s] 9) := by
  go_enter Try.func23, Try.ntmps23
  go_wp2
  go_ret
  exact ⟨rfl, rfl⟩
/-- Between two rounds: the list's box and its row, the number's box. -/
def frame_Row.I (w : World) (full : List (Int × S23)) (pre : List (Int × S23)) (W : World) : Prop :=
  ∃ v, Boxed W w.heap.size 42 v ∧ W.ownsRow w.heap.size 23 3 v pre.length ((pre.map (fun x => x.2)).flatMap frame_Row.enc) ∧ Boxed W (w.heap.size + 1) 3 (.int .i64 (frame_Row.sum pre)) ∧ (∃ u, Boxed W (w.heap.size + 2) 9 u) ∧ Below w.heap.size w W ∧ pre <+: full
theorem frame_Row.I_free (w : World) (full : List (Int × S23)) : Rb.Free (w.heap.size + 2) (frame_Row.I w full) := by
  rintro pre W W' ⟨v, h1, h2, h3, ⟨u, h4⟩, h5, h6⟩ hg ht
  have hne := h4.not_row (by decide) h2
  obtain ⟨u', hu'⟩ := ht _ _ h4
  exact ⟨v, h1.kept hg (by simp), h2.kept hg (.inr hne.symm), h3.kept hg (by simp), ⟨u', hu'⟩, h5.grown hg h5.size (fun j e => by injection e with e; omega), h6⟩
theorem frame_Row.not_own {W : World} {base : Nat} {v : Value} {n : Nat} {cs : List Value} (h : W.ownsRow base 23 3 v n cs) {r : Nat} {o : Obj} (ho : W.heap[r]? = some o) (hc : o.isCells = false) : v.ownBlock ≠ some r := by
  intro e
  rcases h.2 with ⟨rfl, _⟩ | ⟨g, cap, cur, rfl, _, hgb, _⟩
  · simp [Value.ownBlock] at e
  · obtain rfl : g = r := by simpa [Value.ownBlock] using e
    rw [ho] at hgb; cases hgb; cases hc
theorem frame_Row.I_freeL (w : World) (full : List (Int × S23)) (r : Nat) (hr : w.heap.size + 2 < r) : Rb.FreeL r (frame_Row.I w full) := by
  rintro pre W W' ⟨v, h1, h2, h3, ⟨u, h4⟩, h5, h6⟩ hg ⟨o, ho⟩
  have hne : v.ownBlock ≠ some r := frame_Row.not_own h2 ho rfl
  exact ⟨v, h1.kept hg (by simp; omega), h2.kept hg (.inr hne), h3.kept hg (by simp; omega), ⟨u, h4.kept hg (by simp; omega)⟩, h5.grown hg h5.size (fun j e => by injection e with e; omega), h6⟩
/-- In a round: the element's own box. -/
def frame_Row.Ax (w : World) (full : List (Int × S23)) (s : ByteArray) (pre : List (Int × S23)) (x : Int × S23) (a : Act) (W : World) : Prop :=
  frame_Row.I w full pre W ∧ ∃ g, w.heap.size + 4 < g ∧ W.heap[g]? = some (.cells #[.int .i64 x.2.f0, .int .i64 x.2.f1, .string x.2.f2] 23 (0, 0)) ∧
    a = { tmps := #[.string s, undef, .slice none 0 0, .int .i64 0, .pointer (some ⟨w.heap.size, 0, none⟩), .pointer (some ⟨w.heap.size + 1, 0, none⟩), .int .i64 x.1, .pointer (some ⟨g, 0, none⟩), .string s, .func (.func 35) #[] #[.pointer (some ⟨w.heap.size + 2, 0, none⟩)], .int .i64 x.1, .agg #[.int .i64 x.2.f0, .int .i64 x.2.f1, .string x.2.f2], undef, undef, undef, undef, undef, undef, undef, undef, undef], defers := [] }
theorem frame_Row.Ax_freeL (w : World) (full : List (Int × S23)) (s : ByteArray) (pre : List (Int × S23)) (x : Int × S23) (a : Act) : Rb.FreeL (w.heap.size + 4) (fun (_ : Unit) W => frame_Row.Ax w full s pre x a W) := by
  rintro _ W W' ⟨h1, g, h2, h3, h4⟩ hg ho
  exact ⟨frame_Row.I_freeL w full _ (by omega) _ _ _ h1 hg ho, g, h2, (hg.block g (blk_lt h3) (by simp; omega)).trans h3, h4⟩
namespace frame_Row_walk
attribute [local go_sem] Oper.semAt_some
set_option maxHeartbeats 8000000 in
set_option maxRecDepth 100000 in
theorem frame_Row.walk (k : Nat) (s : ByteArray) (full : List (Int × S23)) (w : World) (hf : frame_Row.go k k s = some full) (hs : s.size ≤ 1000000000000) (hl : full.length ≤ 1000000) :
    CallsIn Fence.wide 10 Try.prog 20 #[.string s] w fun e w' => ∃ v : Value, e = .returned (.tuple #[v, .int .i64 (frame_Row.sum full)]) ∧ w'.ownsRow w.heap.size 23 3 v full.length ((full.map (fun x => x.2)).flatMap frame_Row.enc) ∧ Below w.heap.size w w' := by
  obtain ⟨i0, hi, hz0, hz1, hz2⟩ := info_parts frame_Row.info
  refine callsIn_of_wp_marks Try.func20 rfl trivial ?_ rfl
  simp only [Try.ntmps20, List.size_toArray, List.length_cons, List.length_nil, Nat.reduceAdd, Nat.reduceSub, Array.replicate_succ, Array.replicate_zero, List.push_toArray, List.append_toArray, List.nil_append, List.cons_append]
  gi_wp2_with (fail)
  refine ⟨trivial, (callsIn_wide.2 (frame_Row.made s _)).mono ?_⟩
  rintro e w' ⟨rfl, rfl⟩
  rw [World.size_alloc, World.size_alloc]
  have bL : Boxed (((w.alloc (.cells #[.slice none 0 0] 42)).alloc (.cells #[.int .i64 0] 3)).alloc (.cells #[.string s] 9)) w.heap.size 42 (.slice none 0 0) := ((Boxed.new w 42 (.slice none 0 0)).alloc _).alloc _
  have bN : Boxed (((w.alloc (.cells #[.slice none 0 0] 42)).alloc (.cells #[.int .i64 0] 3)).alloc (.cells #[.string s] 9)) (w.heap.size + 1) 3 (.int .i64 0) := by
    have := Boxed.new (w.alloc (.cells #[.slice none 0 0] 42)) 3 (.int .i64 0)
    rw [World.size_alloc] at this
    exact this.alloc _
  have bS : frame_Row.box (((w.alloc (.cells #[.slice none 0 0] 42)).alloc (.cells #[.int .i64 0] 3)).alloc (.cells #[.string s] 9)) (w.heap.size + 2) s := by
    have := blk_new ((w.alloc (.cells #[.slice none 0 0] 42)).alloc (.cells #[.int .i64 0] 3)) (.cells #[.string s] 9)
    rw [World.size_alloc, World.size_alloc] at this
    exact this
  have hB0 : Below w.heap.size w (((w.alloc (.cells #[.slice none 0 0] 42)).alloc (.cells #[.int .i64 0] 3)).alloc (.cells #[.string s] 9)) := below_alloc (below_alloc (below_alloc (Below.refl _ _) _) _) _
  have hsz : (((w.alloc (.cells #[.slice none 0 0] 42)).alloc (.cells #[.int .i64 0] 3)).alloc (.cells #[.string s] 9)).heap.size = w.heap.size + 3 := by simp
  generalize ((w.alloc (.cells #[.slice none 0 0] 42)).alloc (.cells #[.int .i64 0] 3)).alloc (.cells #[.string s] 9) = W0 at bL bN bS hB0 hsz ⊢
  gi_wp2_with (fail)
  have hW : W0.heap.size + 1 = w.heap.size + 4 := by rw [hsz]
  refine Rb.range (by decide) (gf := 35) (lb := #[.pointer (some ⟨w.heap.size + 2, 0, none⟩)]) rfl (enters_of Try.func35 (by kernel_rfl) rfl)
    (frame_Row.each k k 9 (by decide) (w.heap.size + 2) s full hf hs) (by rw [hsz]; omega) (fun o o' => blk_alloc (blk_alloc bS o) o') (fun _ => rfl)
    (frame_Row.I w full) (fun _ _ _ => False) (frame_Row.Ax w full s)
    (frame_Row.I_free w full) (by rw [hW]; exact frame_Row.I_freeL w full _ (by omega)) (fun _ _ _ _ h _ _ => h) (fun _ _ _ _ h _ _ => h) (fun pre x a' => by rw [hW]; exact frame_Row.Ax_freeL w full s pre x a')
    ⟨_, bL, World.ownsRow_nil _ _ _ _, bN, ⟨_, bS⟩, hB0, List.nil_prefix⟩ ?assign ?body ?done (fun _ _ _ _ h _ => h.elim)
  case assign =>
    intro l pre x W hI hpre hlt
    rw [hsz] at hlt
    obtain ⟨q, ⟨e0, e1, e2⟩⟩ := x
    dsimp only [frame_Row.encs]
    have HI := Aside0.mk hI
    clear hI
    gi_wp2
    refine ⟨⟨by simp, Below.heap_alloc _ _ _ (by omega), Below.heap_alloc _ _ _ (by omega), Below.heap_alloc _ _ _ (by omega)⟩, frame_Row.I_free w full _ _ _ HI.out (Rb.lay _ _ _) (Rb.tameA _ _ _), W.heap.size, by omega, blk_new _ _, rfl⟩
  case body =>
    rintro l pre x a1 W ⟨⟨v, h1, h2, h3, ⟨u, h4⟩, h5, h6⟩, g, h7, h8, rfl⟩ hpre hD ⟨lr, hLr⟩
    rw [hsz] at hD hLr
    obtain ⟨q, ⟨e0, e1, e2⟩⟩ := x
    have hpl : pre.length ≤ 1000000 := by have := hpre.length_le; rw [List.length_append, List.length_singleton] at this; omega
    have hcL := h1.cell
    have hcN := h3.cell
    have hfN := h3.frozen
    have he0 : W.cell? ⟨g, 0, none⟩ = some (.int .i64 e0) := (blk_cell h8 0).trans rfl
    have he1 : W.cell? ⟨g, 1, none⟩ = some (.int .i64 e1) := (blk_cell h8 1).trans rfl
    have he2 : W.cell? ⟨g, 2, none⟩ = some (.string e2) := (blk_cell h8 2).trans rfl
    have H2 := Aside0.mk h2
    have H5 := Aside0.mk h5
    have H8 := Aside0.mk h8
    have HP := Aside0.mk hpre
    have H1 := Aside0.mk h1
    have H3 := Aside0.mk h3
    have H4 := Aside0.mk h4
    clear h1 h2 h3 h4 h5 h6 h8 hpre
    have HD := Aside0.mk hD
    have HLR := Aside0.mk hLr
    clear hD hLr
    dsimp only
    have hbz : (pre.length + 1) * 32 ≤ 140737488355328 := by omega
    have hml : pre.length + 1 ≤ maxLen := by unfold maxLen; omega
    gi_wp2_with (gi_at_builtin; refine wpListIn_append_own _ rfl _ _ 42 rfl w.heap.size 23 i0 (.agg #[.int .i64 0, .int .i64 0, .string ByteArray.empty]) 3 32 Try.underlying42 hi hz0 hz1 hz2 rfl (by decide) _ _ _ rfl (H2.out.alloc _) ⟨W.heap.size, 0, none⟩ 1 1 [.int .i64 e0, .int .i64 e1, .string e2] rfl rfl (fun j u hu => by rw [Addr.add_lit, Nat.zero_add, blk_cell (blk_new _ _)]; simpa using hu) (by simp [Value.oneCell']) hml hbz (by have := H5.out.size; simp; omega) ?_; intro v' w1 hown' hgrow _; obtain ⟨g', cap', rfl⟩ := ownsRow_succ hown'; obtain ⟨hv1, hv2, hr2, hk2, hb2⟩ := H1.out.appended (by decide) H2.out H5.out.size (Nat.le_refl _) hown' hgrow; have hc1 := hv1.cell; have hf1 := hv1.frozen; have HN1 := Aside0.mk ((H3.out.alloc _).kept hgrow (H3.out.not_row (by decide) H2.out)); have hcN1 := HN1.out.cell; have hfN1 := HN1.out.frozen; have HV1 := Aside0.mk hv1; have HV2 := Aside0.mk hv2; have HR2 := Aside0.mk hr2; have HB2 := Aside0.mk hb2; have HGROW := Aside0.mk hgrow; clear hv1 hv2 hr2 hk2 hb2 hgrow hown')
    have HN2 := Aside0.mk (HN1.out.other (show w.heap.size + 1 ≠ w.heap.size by omega) (Value.slice (some { block := g', off := 0 }) (pre.length + 1) cap'))
    have hsw := H5.out.size
    have hk : ∀ j, j < W.heap.size → v.ownBlock ≠ some j → j ≠ w.heap.size → j ≠ w.heap.size + 1 → ((w1.setCell ⟨w.heap.size, 0, none⟩ (.slice (some ⟨g', 0, none⟩) (pre.length + 1) cap')).setCell ⟨w.heap.size + 1, 0, none⟩ (.int .i64 (wrap64 (frame_Row.sum pre + q)))).heap[j]? = W.heap[j]? := fun j hj ho h1 h2 => by
      rw [Below.heap_setCell _ _ _ _ h2, Below.heap_setCell _ _ _ _ h1, HGROW.out.block j (by simp; omega) (fun e => ho e.symm), Below.heap_alloc _ _ _ hj]
    have hbs : v.ownBlock ≠ some (w.heap.size + 2) := (H4.out.not_row (by decide) H2.out).symm
    refine ⟨⟨?_, hk _ H4.out.lt hbs (by omega) (by omega), hk _ (Array.getElem?_eq_some_iff.1 HD.out).1 (frame_Row.not_own H2.out HD.out rfl) (by omega) (by omega), hk _ (Array.getElem?_eq_some_iff.1 HLR.out).1 (frame_Row.not_own H2.out HLR.out rfl) (by omega) (by omega)⟩, ?_⟩
    · have := HGROW.out.size
      simp at this ⊢
      omega
    · refine ⟨.slice (some ⟨g', 0, none⟩) (pre.length + 1) cap', HV2.out.other (by omega) _, ?_, ?_, ⟨u, (hk _ H4.out.lt hbs (by omega) (by omega)).trans H4.out⟩, (H5.out.trans HB2.out).setCell (p := ⟨w.heap.size + 1, 0, none⟩) (Nat.le_succ _) _, HP.out⟩
      · have := HR2.out.kept (grownBy_setCell' _ (w.heap.size + 1) (.int .i64 (wrap64 (frame_Row.sum pre + q)))) (.inr (HN2.out.not_row (by decide) HR2.out).symm)
        rw [List.length_append, List.length_singleton, List.map_append, List.flatMap_append]
        exact this
      · rw [frame_Row.sum_snoc]
        exact HN2.out.set _
  case done =>
    rintro W ⟨v, h1, h2, h3, ⟨u, h4⟩, h5, h6⟩ hD
    rw [hsz] at hD
    have hcL := h1.cell
    have hcN := h3.cell
    have H2 := Aside0.mk h2
    have H5 := Aside0.mk h5
    have HD := Aside0.mk hD
    clear h1 h2 h3 h4 h5 h6 hD
    gi_wp2_with (fail)
    refine wpIn_wide.2 ?_
    go_quiet (fail)
    gi_wp2
    have hK : (W.drewN nq).heap[W0.heap.size]? = some (.deferred (some [])) := by rw [hsz]; exact HD.out
    refine ⟨by simp, .inl ⟨_, _, rfl, run_takeDeferred hK, ?_⟩⟩
    refine ⟨.tuple #[v, .int .i64 (frame_Row.sum full)], by simp [results, Try.results20, go_sem], v, rfl, ?_, ?_⟩
    · exact ownsRow_putObj (W := W.drewN nq) H2.out _ hK rfl
    · have hb : Below w.heap.size w (W.drewN nq) := pw_below_drewN H5.out _
      exact hb.grown (grownBy_putObj' _ _ _) hb.size (fun j e => by injection e with e; omega)
end frame_Row_walk
set_option maxHeartbeats 4000000 in
theorem frame_Row.calls (k : Nat) (a0 : ByteArray) (r1 : List S23) (r2 : Int) (w : World) (h : frame_Row.f k a0 = some (r1, r2)) :
    Calls Try.prog 20 #[.string a0] w fun e w' => ∃ v0_ : Value, e = .returned (.tuple #[v0_, .int .i64 r2]) ∧ Kd.R k23 23 w' w.heap.size (fun _ => True) v0_ r1 ∧ Below w.heap.size w w' := by
  obtain ⟨full, hf, h⟩ := Option.bind_eq_some_iff.mp h
  split at h
  case isFalse => cases h
  rename_i hb
  injection h with h
  injection h with h1 h2
  subst h1
  subst h2
  refine (callsIn_wide.1 (frame_Row_walk.frame_Row.walk k a0 full w hf hb.1 hb.2)).mono ?_
  rintro e w' ⟨v, rfl, hr, hbl⟩
  refine ⟨v, rfl, (Sl.R_flat frame_Row.flat).2 ⟨fun _ _ => trivial, ?_⟩, hbl⟩
  rw [List.length_map]
  exact hr

end Go.Proofs.Ytgfmbddkefjchaa.P
