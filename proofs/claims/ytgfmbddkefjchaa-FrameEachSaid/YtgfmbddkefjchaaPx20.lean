-- Written by wip/mk.py of this repo: the kit's print program, with contracts of our own among its functions.
import Derived.Test.YtgfmbddkefjchaaPx13
import Derived.Test.YtgfmbddkefjchaaPx8
import Derived.Test.YtgfmbddkefjchaaPx2
import Derived.Test.YtgfmbddkefjchaaRq
import Derived.Test.YtgfmbddkefjchaaVm
import Derived.Test.YtgfmbddkefjchaaRb
import Derived.Test.YtgfmbddkefjchaaSl
import Derived.RangeFuncNested
import Derived.RangeFuncBound
import Derived.RangeFuncCalls
import Derived.RangeFuncLeaves
import Derived.Shelf.Abstract
import Derived.Shelf.RegionOpen
import Derived.WalkKit
import Derived.OwnWalkIn
import Derived.TacticsInMore
import Derived.LoopNIn
import Derived.LoopIn
import Derived.WalkMore
import Derived.Lib.Hide
import Derived.StillTailTactics
import Derived.BigRegion
namespace Go.Proofs.Ytgfmbddkefjchaa.P
open Go.RowKit Go.Proofs.YtgfmbddkefjchaaW.PrintWords Go.Proofs.YtgfmbddkefjchaaW.PrintLast Go.Proofs.YtgfmbddkefjchaaW.PrintMore
attribute [local go_sem] max2_int min2_int max_two min_two max_three min_three max_four min_four
set_option linter.unusedVariables false
set_option linter.unusedSimpArgs false
def headgatelaw03_FrameEach.cut (s : ByteArray) : ByteArray := if (s.size : Int) ≤ 100000 then s else s.extract 0 100000
/-- THE ONE PURE STATEMENT of headgatelaw03_FrameEach: yours. -/
def headgatelaw03_FrameEach.Pure : Prop := ∀ (a0 : ByteArray) (a1 : Int), a0.size ≤ 140737488351232 → (Lit.int .i64 a1).wf = true → ∃ (k : Nat) (full : List (Int × S23)),
  headgatelaw03_awake.f k = some true ∧ frame_Row.go k k (headgatelaw03_FrameEach.cut a0) = some full ∧ full.length ≤ 1000000 ∧ (∀ x ∈ full, 1 ≤ x.1) ∧ (∀ pre, pre <+: full → pre.length < full.length → frame_Row.sum pre < frame_Row.sum full)
/-- Between two rounds: the rows, how many were seen, how many bytes. -/
def headgatelaw03_FrameEach.J (W3 : World) (v : Value) (full pre : List (Int × S23)) (W : World) : Prop :=
  Boxed W W3.heap.size 42 v ∧ Boxed W (W3.heap.size + 1) 3 (.int .i64 (pre.length : Int)) ∧ Boxed W (W3.heap.size + 2) 3 (.int .i64 (frame_Row.sum pre)) ∧ (∃ u, Boxed W (W3.heap.size + 3) 9 u) ∧ Below W3.heap.size W3 W ∧ pre <+: full
def headgatelaw03_FrameEach.I (W3 : World) (v : Value) (stop : Int) (full pre : List (Int × S23)) (W : World) : Prop := headgatelaw03_FrameEach.J W3 v full pre W ∧ ∀ j : Nat, 1 ≤ j → j ≤ pre.length → (j : Int) ≠ stop
def headgatelaw03_FrameEach.Ix (W3 : World) (v : Value) (stop : Int) (full : List (Int × S23)) (c : Code) (pre : List (Int × S23)) (W : World) : Prop := c = .exit 0 ∧ headgatelaw03_FrameEach.J W3 v full pre W ∧ 1 ≤ stop ∧ (pre.length : Int) = stop
theorem headgatelaw03_FrameEach.J_grown {W3 : World} {v : Value} {full pre : List (Int × S23)} {W W' : World} {r : Nat} (h : headgatelaw03_FrameEach.J W3 v full pre W) (hg : W.grownBy W' (some r)) (hr : W3.heap.size + 3 < r) : headgatelaw03_FrameEach.J W3 v full pre W' := by
  obtain ⟨h1, h2, h3, ⟨u, h4⟩, h5, h6⟩ := h
  exact ⟨h1.kept hg (by simp; omega), h2.kept hg (by simp; omega), h3.kept hg (by simp; omega), ⟨u, h4.kept hg (by simp; omega)⟩, h5.grown hg h5.size (fun j e => by injection e with e; omega), h6⟩
theorem headgatelaw03_FrameEach.J_box {W3 : World} {v : Value} {full pre : List (Int × S23)} {W W' : World} (h : headgatelaw03_FrameEach.J W3 v full pre W) (hg : W.grownBy W' (some (W3.heap.size + 3))) (ht : ∀ u t, W.heap[W3.heap.size + 3]? = some (.cells #[u] t (0, 0)) → ∃ u', W'.heap[W3.heap.size + 3]? = some (.cells #[u'] t (0, 0))) : headgatelaw03_FrameEach.J W3 v full pre W' := by
  obtain ⟨h1, h2, h3, ⟨u, h4⟩, h5, h6⟩ := h
  obtain ⟨u', hu'⟩ := ht _ _ h4
  exact ⟨h1.kept hg (by simp), h2.kept hg (by simp), h3.kept hg (by simp), ⟨u', hu'⟩, h5.grown hg h5.size (fun j e => by injection e with e; omega), h6⟩
def headgatelaw03_FrameEach.Ax (w W3 : World) (v z13 z14 z15 z16 z17 : Value) (t : ByteArray) (stop : Int) (full pre : List (Int × S23)) (x : Int × S23) (a : Act) (W : World) : Prop :=
  headgatelaw03_FrameEach.I W3 v stop full pre W ∧ ∃ g, W3.heap.size + 5 < g ∧ W.heap[g]? = some (.cells #[.int .i64 x.2.f0, .int .i64 x.2.f1, .string x.2.f2] 23 (0, 0)) ∧
    a = { tmps := #[.string t, .int .i64 stop, undef, .pointer (some ⟨w.heap.size, 0, none⟩), .pointer (some ⟨w.heap.size + 1, 0, none⟩), .pointer (some ⟨W3.heap.size, 0, none⟩), .int .i64 (frame_Row.sum full), .pointer (some ⟨W3.heap.size + 1, 0, none⟩), .pointer (some ⟨W3.heap.size + 1 + 1, 0, none⟩), .int .i64 x.1, .pointer (some ⟨g, 0, none⟩), .bool true, .bool false, z13, z14, z15, z16, z17, .tuple #[v, .int .i64 (frame_Row.sum full)], .string t, .tuple #[v, .int .i64 (frame_Row.sum full)], v, .int .i64 (frame_Row.sum full), .string t, .func (.func 35) #[] #[.pointer (some ⟨W3.heap.size + 1 + 1 + 1, 0, none⟩)], .int .i64 x.1, .agg #[.int .i64 x.2.f0, .int .i64 x.2.f1, .string x.2.f2], undef, undef, undef, undef, undef, undef, undef, undef, undef, undef, undef, undef, undef, undef, undef, undef, undef, undef, undef, undef, undef, undef, undef, undef, undef, undef, undef, undef, undef, undef, undef, undef, undef, undef, undef, undef, undef, undef, undef, undef, undef, undef, undef, undef, undef, undef, undef, undef, undef], defers := [] }
theorem headgatelaw03_FrameEach.Ax_freeL (w W3 : World) (v z13 z14 z15 z16 z17 : Value) (t : ByteArray) (stop : Int) (full pre : List (Int × S23)) (x : Int × S23) (a : Act) : Rb.FreeL (W3.heap.size + 5) (fun (_ : Unit) W => headgatelaw03_FrameEach.Ax w W3 v z13 z14 z15 z16 z17 t stop full pre x a W) := by
  rintro _ W W' ⟨h1, g, h2, h3, h4⟩ hg ho
  exact ⟨⟨headgatelaw03_FrameEach.J_grown h1.1 hg (by omega), h1.2⟩, g, h2, (hg.block g (blk_lt h3) (by simp; omega)).trans h3, h4⟩
theorem headgatelaw03_FrameEach.J_step {W3 : World} {v : Value} {full pre : List (Int × S23)} {x : Int × S23} {W : World} {u : Value} (nq : Nat) (K : Int) (hK : wrap64 (K + 1) = ((pre.length + 1 : Nat) : Int)) (hpre : (pre ++ [x]) <+: full)
    (h1 : Boxed W W3.heap.size 42 v) (h2 : Boxed W (W3.heap.size + 1) 3 (.int .i64 K)) (h3 : Boxed W (W3.heap.size + 2) 3 (.int .i64 (frame_Row.sum pre))) (h4 : Boxed W (W3.heap.size + 3) 9 u) (h5 : Below W3.heap.size W3 W)
    (Wf : World) (hW : Wf = ((W.drewN nq).setCell ⟨W3.heap.size + 1 + 1, 0, none⟩ (.int .i64 (wrap64 (frame_Row.sum pre + x.1)))).setCell ⟨W3.heap.size + 1, 0, none⟩ (.int .i64 (wrap64 (K + 1)))) :
    headgatelaw03_FrameEach.J W3 v full (pre ++ [x]) Wf ∧ Rb.Stay (W3.heap.size + 4) (W3.heap.size + 3) W Wf := by
  have hk : ∀ j, j ≠ W3.heap.size + 1 → j ≠ W3.heap.size + 1 + 1 → Wf.heap[j]? = W.heap[j]? := fun j e1 e2 => by
    rw [hW, Below.heap_setCell _ _ _ _ e1, Below.heap_setCell _ _ _ _ e2]; rfl
  have hs : Wf.heap.size = W.heap.size := by rw [hW]; simp
  refine ⟨⟨(hk _ (by omega) (by omega)).trans h1, ?_, ?_, ⟨u, (hk _ (by omega) (by omega)).trans h4⟩, ?_, hpre⟩, ⟨by rw [hs]; exact Nat.le_refl _, hk _ (by omega) (by omega), hk _ (by omega) (by omega), hk _ (by omega) (by omega)⟩⟩
  · rw [hW, List.length_append, List.length_singleton, ← hK]
    exact (Boxed.other (show Boxed (W.drewN nq) (W3.heap.size + 1) _ _ from h2) (show W3.heap.size + 1 ≠ W3.heap.size + 1 + 1 by omega) _).set _
  · rw [hW, frame_Row.sum_snoc]
    exact ((show Boxed (W.drewN nq) (W3.heap.size + 1 + 1) _ _ from h3).set _).other (show W3.heap.size + 1 + 1 ≠ W3.heap.size + 1 by omega) _
  · rw [hW]
    exact ((pw_below_drewN h5 nq).setCell (p := ⟨W3.heap.size + 1 + 1, 0, none⟩) (by show _ ≤ W3.heap.size + 1 + 1; omega) _).setCell (p := ⟨W3.heap.size + 1, 0, none⟩) (by show _ ≤ W3.heap.size + 1; omega) _
namespace headgatelaw03_FrameEach_walk
attribute [local go_sem] Oper.semAt_some
set_option maxHeartbeats 8000000 in
set_option maxRecDepth 100000 in
theorem headgatelaw03_FrameEach.walk0 (k : Nat) (s : ByteArray) (stop : Int) (full : List (Int × S23)) (w : World) (hw : headgatelaw03_awake.f k = some true) (hf : frame_Row.go k k (headgatelaw03_FrameEach.cut s) = some full) (hs : s.size ≤ 140737488351232) (hl : full.length ≤ 1000000)
    (hx : ∀ x ∈ full, 1 ≤ x.1) (hq : ∀ pre, pre <+: full → pre.length < full.length → frame_Row.sum pre < frame_Row.sum full) :
    CallsIn Fence.wide 12 Try.prog 10 #[.string s, .int .i64 stop] w fun e w' => e = .returned (.bool true) ∧ Below w.heap.size w w' := by
  have HW := Aside0.mk hw
  have HF := Aside0.mk hf
  have HX := Aside0.mk hx
  have HQ := Aside0.mk hq
  have HS := Aside0.mk hs
  clear hw hf hx hq hs
  refine callsIn_of_wp_marks Try.func10 rfl trivial ?_ rfl
  simp only [Try.ntmps10, List.size_toArray, List.length_cons, List.length_nil, Nat.reduceAdd, Nat.reduceSub, Array.replicate_succ, Array.replicate_zero, List.push_toArray, List.append_toArray, List.nil_append, List.cons_append]
  gi_wp2_with (fail)
  have BS0 : Boxed ((w.alloc (.cells #[.int .i64 stop] 3)).alloc (.cells #[.bool false] 4)) w.heap.size 3 (.int .i64 stop) := (Boxed.new w 3 (.int .i64 stop)).alloc _
  have BR0 : Boxed ((w.alloc (.cells #[.int .i64 stop] 3)).alloc (.cells #[.bool false] 4)) (w.heap.size + 1) 4 (.bool false) := by
    have := Boxed.new (w.alloc (.cells #[.int .i64 stop] 3)) 4 (.bool false)
    rwa [World.size_alloc] at this
  have hB0 : Below w.heap.size w ((w.alloc (.cells #[.int .i64 stop] 3)).alloc (.cells #[.bool false] 4)) := below_alloc (below_alloc (Below.refl _ _) _) _
  refine ⟨trivial, (callsIn_wide.2 (headgatelaw03_awake.calls k true _ HW.out)).mono ?_⟩
  rintro e W1 ⟨rfl, hb⟩
  have BS1 := Aside0.mk (blk_below BS0 hb)
  have BR1 := Aside0.mk (blk_below BR0 hb)
  have HB1 := Aside0.mk (below_step hB0 hb)
  clear BS0 BR0 hB0 hb
  gi_wp2_with (fail)
  by_cases c : (s.size : Int) ≤ 100000
  · rw [headgatelaw03_FrameEach.cut, if_pos c] at HF
    refine ⟨trivial, (callsIn_wide.2 (headgatelaw03_light.calls s true W1 (by unfold headgatelaw03_light.f; rw [decide_eq_true c]))).mono ?_⟩
    rintro e W2 ⟨rfl, hd⟩
    have hb := hd.below
    have BS2 := Aside0.mk (blk_below BS1.out hb)
    have BR2 := Aside0.mk (blk_below BR1.out hb)
    have HB2 := Aside0.mk (below_step HB1.out hb)
    clear BS1 BR1 HB1 hb hd
    gi_wp2_with (fail)
    have hrow : frame_Row.f k s = some (full.map (fun x => x.2), frame_Row.sum full) := by
      unfold frame_Row.f
      rw [HF.out, Option.bind_some, if_pos ⟨by omega, hl⟩]
    refine ⟨trivial, (callsIn_wide.2 (frame_Row.calls k s _ _ W2 hrow)).mono ?_⟩
    rintro e W3 ⟨v, rfl, hr, hb⟩
    have BS3 := Aside0.mk (blk_below BS2.out hb)
    have BR3 := Aside0.mk (blk_below BR2.out hb)
    have HB3 := Aside0.mk (below_step HB2.out hb)
    obtain ⟨A, ca, ev⟩ := Kd.R_slice hr
    subst ev
    rw [List.length_map] at hr ⊢
    have HR3 := Aside0.mk (Kd.R_reads' hr).2
    clear BS2 BR2 HB2 hb hr hrow
    gi_wp2_with (fail)
    refine ⟨trivial, (callsIn_wide.2 (frame_Row.made s _)).mono ?_⟩
    rintro e w' ⟨rfl, rfl⟩
    rw [World.size_alloc, World.size_alloc, World.size_alloc]
    have bL : Boxed ((((W3.alloc (.cells #[.slice A full.length ca] 42)).alloc (.cells #[.int .i64 0] 3)).alloc (.cells #[.int .i64 0] 3)).alloc (.cells #[.string s] 9)) W3.heap.size 42 (.slice A full.length ca) := (((Boxed.new W3 42 (.slice A full.length ca)).alloc _).alloc _).alloc _
    have bK : Boxed ((((W3.alloc (.cells #[.slice A full.length ca] 42)).alloc (.cells #[.int .i64 0] 3)).alloc (.cells #[.int .i64 0] 3)).alloc (.cells #[.string s] 9)) (W3.heap.size + 1) 3 (.int .i64 0) := by
      have := Boxed.new (W3.alloc (.cells #[.slice A full.length ca] 42)) 3 (.int .i64 0)
      rw [World.size_alloc] at this
      exact (this.alloc _).alloc _
    have bM : Boxed ((((W3.alloc (.cells #[.slice A full.length ca] 42)).alloc (.cells #[.int .i64 0] 3)).alloc (.cells #[.int .i64 0] 3)).alloc (.cells #[.string s] 9)) (W3.heap.size + 2) 3 (.int .i64 0) := by
      have := Boxed.new ((W3.alloc (.cells #[.slice A full.length ca] 42)).alloc (.cells #[.int .i64 0] 3)) 3 (.int .i64 0)
      rw [World.size_alloc, World.size_alloc] at this
      exact this.alloc _
    have bT : frame_Row.box ((((W3.alloc (.cells #[.slice A full.length ca] 42)).alloc (.cells #[.int .i64 0] 3)).alloc (.cells #[.int .i64 0] 3)).alloc (.cells #[.string s] 9)) (W3.heap.size + 3) s := by
      have := blk_new (((W3.alloc (.cells #[.slice A full.length ca] 42)).alloc (.cells #[.int .i64 0] 3)).alloc (.cells #[.int .i64 0] 3)) (.cells #[.string s] 9)
      rw [World.size_alloc, World.size_alloc, World.size_alloc] at this
      exact this
    have hB4 : Below W3.heap.size W3 ((((W3.alloc (.cells #[.slice A full.length ca] 42)).alloc (.cells #[.int .i64 0] 3)).alloc (.cells #[.int .i64 0] 3)).alloc (.cells #[.string s] 9)) := below_alloc (below_alloc (below_alloc (below_alloc (Below.refl _ _) _) _) _) _
    have hsz : ((((W3.alloc (.cells #[.slice A full.length ca] 42)).alloc (.cells #[.int .i64 0] 3)).alloc (.cells #[.int .i64 0] 3)).alloc (.cells #[.string s] 9)).heap.size = W3.heap.size + 4 := by simp
    generalize (((W3.alloc (.cells #[.slice A full.length ca] 42)).alloc (.cells #[.int .i64 0] 3)).alloc (.cells #[.int .i64 0] 3)).alloc (.cells #[.string s] 9) = W0 at bL bK bM bT hB4 hsz ⊢
    gi_wp2_with (fail)
    have hW : W0.heap.size + 1 = W3.heap.size + 5 := by rw [hsz]
    refine Rb.range (by decide) (gf := 35) (lb := #[.pointer (some ⟨W3.heap.size + 1 + 1 + 1, 0, none⟩)]) rfl (enters_of Try.func35 (by kernel_rfl) rfl)
      (frame_Row_walk.frame_Row.each k k 11 (by decide) (W3.heap.size + 3) s full HF.out (by omega)) (by rw [hsz]; omega) (fun o o' => blk_alloc (blk_alloc bT o) o') (fun _ => rfl)
      (headgatelaw03_FrameEach.I W3 (.slice A full.length ca) stop full) (headgatelaw03_FrameEach.Ix W3 (.slice A full.length ca) stop full) (headgatelaw03_FrameEach.Ax w W3 (.slice A full.length ca) (.string s) (.bool true) (.bool false) undef undef s stop full)
      (fun pre W W' h hg ht => ⟨headgatelaw03_FrameEach.J_box h.1 hg ht, h.2⟩) (by rw [hW]; exact fun pre W W' h hg ht => ⟨headgatelaw03_FrameEach.J_grown h.1 hg (by omega), h.2⟩)
      (fun c pre W W' h hg ht => ⟨h.1, headgatelaw03_FrameEach.J_box h.2.1 hg ht, h.2.2⟩) (by rw [hW]; exact fun c pre W W' h hg ht => ⟨h.1, headgatelaw03_FrameEach.J_grown h.2.1 hg (by omega), h.2.2⟩)
      (fun pre x a' => by rw [hW]; exact headgatelaw03_FrameEach.Ax_freeL w W3 _ _ _ _ _ _ s stop full pre x a')
      ⟨⟨bL, bK, bM, ⟨_, bT⟩, hB4, List.nil_prefix⟩, fun j h1 h2 => absurd h2 (by simp; omega)⟩ ?assign ?body ?done ?stop
    case assign =>
      intro l pre x W hI hpre hlt
      rw [hsz] at hlt
      obtain ⟨q, ⟨e0, e1, e2⟩⟩ := x
      dsimp only [frame_Row.encs]
      have HI := Aside0.mk hI
      clear hI
      gi_wp2
      refine ⟨⟨by simp, Below.heap_alloc _ _ _ (by omega), Below.heap_alloc _ _ _ (by omega), Below.heap_alloc _ _ _ (by omega)⟩, ⟨headgatelaw03_FrameEach.J_box HI.out.1 (Rb.lay _ _ _) (Rb.tameA _ _ _), HI.out.2⟩, W.heap.size, by omega, blk_new _ _, rfl⟩
    case body =>
      rintro l pre x a1 W ⟨⟨⟨h1, h2, h3, ⟨u, h4⟩, h5, h6⟩, hj⟩, g, h7, h8, rfl⟩ hpre hD ⟨lr, hLr⟩
      rw [hsz] at hD hLr
      obtain ⟨q, ⟨e0, e1, e2⟩⟩ := x
      have hlen : pre.length < full.length := by have := hpre.length_le; rw [List.length_append, List.length_singleton] at this; omega
      have hq1 : 1 ≤ q := HX.out (q, ⟨e0, e1, e2⟩) (hpre.subset (by simp))
      have hrd : rd_T23 (full.map (fun x => x.2)) (pre.length : Int) = ⟨e0, e1, e2⟩ := by
        obtain ⟨r, hr⟩ := hpre
        rw [← hr]
        simp [rd_T23]
      obtain ⟨K, hK⟩ : ∃ K : Int, K = (pre.length : Int) := ⟨_, rfl⟩
      have p1 : 0 ≤ K := by omega
      have q1 : K < ((full.map (fun x => x.2)).length : Int) := by rw [List.length_map]; omega
      obtain ⟨ad, ea, hx0, hx1, hx2⟩ := at_T23 (Kd.C_below HR3.out.2 h5) K p1 q1
      cases ea
      rw [← hK] at hrd h2
      rw [hrd] at hx0 hx1 hx2
      dsimp only at hx0 hx1 hx2 h8 ⊢
      rw [List.length_map] at q1
      have d1 : decide ((full.length : Int) ≤ K) = false := decide_eq_false (by omega)
      have d2 : decide (q < 1) = false := decide_eq_false (by omega)
      have hcL := h1.cell
      have hcK := h2.cell
      have hcS := h3.cell
      have hfK := h2.frozen
      have hfS := h3.frozen
      have he0 : W.cell? ⟨g, 0, none⟩ = some (.int .i64 e0) := (blk_cell h8 0).trans rfl
      have he1 : W.cell? ⟨g, 1, none⟩ = some (.int .i64 e1) := (blk_cell h8 1).trans rfl
      have he2 : W.cell? ⟨g, 2, none⟩ = some (.string e2) := (blk_cell h8 2).trans rfl
      have bS : Boxed W w.heap.size 3 (.int .i64 stop) := blk_below BS3.out h5
      have hcT := bS.cell
      have hlS : w.heap.size < W3.heap.size := blk_lt BS3.out
      have n1 : w.heap.size ≠ W3.heap.size + 1 := by omega
      have n2 : w.heap.size ≠ W3.heap.size + 1 + 1 := by omega
      have n3 : W3.heap.size + 1 ≠ w.heap.size := by omega
      have n4 : W3.heap.size + 1 + 1 ≠ w.heap.size := by omega
      clear hlS
      have HK := Aside0.mk hK
      have HKW : Aside0 (wrap64 (K + 1) = ((pre.length + 1 : Nat) : Int)) := ⟨by unfold wrap64; omega⟩
      have HLEN := Aside0.mk hlen
      have HQ1 := Aside0.mk hq1
      have H1 := Aside0.mk h1
      have H2 := Aside0.mk h2
      have H3 := Aside0.mk h3
      have H4 := Aside0.mk h4
      have H5 := Aside0.mk h5
      have H8 := Aside0.mk h8
      have HPRE := Aside0.mk hpre
      have HJJ := Aside0.mk hj
      have HD := Aside0.mk hD
      have HLR := Aside0.mk hLr
      replace p1 := eq_true p1
      replace q1 := eq_true q1
      clear hK hlen hq1 h1 h2 h3 h4 h5 h8 hpre hj hD hLr hrd bS h6
      gi_wp2_with (fail)
      refine Rq.region_lit (by kernel_rfl) (by kernel_rfl) (by kernel_rfl) ?_
      repeat (quiet_step_in (fail))
      refine wpQuietIn_nil ?_
      intro _ hw'
      obtain ⟨nq, hw''⟩ := hw'
      subst hw''
      clear HLEN HQ1 HX HQ
      by_cases cs : wrap64 (K + 1) = stop
      · have cs1 : (wrap64 (K + 1) == stop) = true := beq_iff_eq.2 cs
        have HCS := Aside0.mk cs
        clear cs
        gi_wp2
        rw [hsz]
        obtain ⟨hj, hst⟩ := headgatelaw03_FrameEach.J_step (x := (q, (⟨e0, e1, e2⟩ : S23))) nq K HKW.out HPRE.out H1.out H2.out H3.out H4.out H5.out _ rfl
        refine ⟨hst, rfl, hj, ?_, ?_⟩
        · have h1 := HCS.out; have h2 := HKW.out; omega
        · have h1 := HCS.out; have h2 := HKW.out; rw [List.length_append, List.length_singleton]; omega
      · have cs1 : (wrap64 (K + 1) == stop) = false := beq_eq_false_iff_ne.2 cs
        have HCS := Aside0.mk cs
        clear cs
        gi_wp2
        rw [hsz]
        obtain ⟨hj, hst⟩ := headgatelaw03_FrameEach.J_step (x := (q, (⟨e0, e1, e2⟩ : S23))) nq K HKW.out HPRE.out H1.out H2.out H3.out H4.out H5.out _ rfl
        refine ⟨hst, hj, fun j j1 j2 => ?_⟩
        rw [List.length_append, List.length_singleton] at j2
        have h1 := HCS.out
        have h2 := HKW.out
        by_cases cj : j ≤ pre.length
        · exact HJJ.out j j1 cj
        · omega
    case done =>
      rintro W ⟨⟨h1, h2, h3, ⟨u, h4⟩, h5, h6⟩, hj⟩ hD
      rw [hsz] at hD
      have hcL := h1.cell
      have hcK := h2.cell
      have hcS := h3.cell
      have bS : Boxed W w.heap.size 3 (.int .i64 stop) := blk_below BS3.out h5
      have bR : Boxed W (w.heap.size + 1) 4 (.bool false) := blk_below BR3.out h5
      have hcT := bS.cell
      have hcR := bR.cell
      have hfR := bR.frozen
      have BR := Aside0.mk bR
      have H5 := Aside0.mk h5
      have HD := Aside0.mk hD
      have HB9 := Aside0.mk (HB3.out.trans (h5.mono HB3.out.size))
      have HBL : Aside0 (w.heap.size + 1 < W3.heap.size) := ⟨blk_lt BR3.out⟩
      have HSZ := Aside0.mk hsz
      clear h1 h2 h3 h4 h5 h6 bS bR hD hsz hW bL bK bM bT hB4
      by_cases c1 : 1 ≤ stop
      · have d1 : decide (1 ≤ stop) = true := decide_eq_true c1
        have d2 : decide (stop < (full.length : Int)) = false := decide_eq_false (fun h => hj stop.toNat (by omega) (by omega) (by omega))
        clear c1 hj
        gi_wp2_with (fail)
        have hK : (W.setCell ⟨w.heap.size + 1, 0, none⟩ (.bool true)).heap[W0.heap.size]? = some (.deferred (some [])) := by
          rw [HSZ.out]
          exact (Below.heap_setCell _ _ _ _ (by have := HBL.out; show W3.heap.size + 4 ≠ w.heap.size + 1; omega)).trans HD.out
        have hbR : Boxed ((W.setCell ⟨w.heap.size + 1, 0, none⟩ (.bool true)).putObj W0.heap.size (.deferred none)) (w.heap.size + 1) 4 (.bool true) := (World.putObj_heap_other (by have := HBL.out; rw [HSZ.out]; omega)).trans (BR.out.set (.bool true))
        have hcE := hbR.cell
        have hb9 : Below w.heap.size w (W.setCell ⟨w.heap.size + 1, 0, none⟩ (.bool true)) := HB9.out.setCell (p := ⟨w.heap.size + 1, 0, none⟩) (Nat.le_succ _) _
        refine ⟨by simp, .inl ⟨_, _, rfl, run_takeDeferred hK, ?_⟩⟩
        refine ⟨.bool true, ?_, rfl, hb9.grown (grownBy_putObj' _ _ _) hb9.size (fun j e => by injection e with e; have := HBL.out; have := HSZ.out; omega)⟩
        simp [results, Try.results10, go_sem, hcE]
      · have d1 : decide (1 ≤ stop) = false := decide_eq_false c1
        clear c1 hj
        gi_wp2_with (fail)
        have hK : (W.setCell ⟨w.heap.size + 1, 0, none⟩ (.bool true)).heap[W0.heap.size]? = some (.deferred (some [])) := by
          rw [HSZ.out]
          exact (Below.heap_setCell _ _ _ _ (by have := HBL.out; show W3.heap.size + 4 ≠ w.heap.size + 1; omega)).trans HD.out
        have hbR : Boxed ((W.setCell ⟨w.heap.size + 1, 0, none⟩ (.bool true)).putObj W0.heap.size (.deferred none)) (w.heap.size + 1) 4 (.bool true) := (World.putObj_heap_other (by have := HBL.out; rw [HSZ.out]; omega)).trans (BR.out.set (.bool true))
        have hcE := hbR.cell
        have hb9 : Below w.heap.size w (W.setCell ⟨w.heap.size + 1, 0, none⟩ (.bool true)) := HB9.out.setCell (p := ⟨w.heap.size + 1, 0, none⟩) (Nat.le_succ _) _
        refine ⟨by simp, .inl ⟨_, _, rfl, run_takeDeferred hK, ?_⟩⟩
        refine ⟨.bool true, ?_, rfl, hb9.grown (grownBy_putObj' _ _ _) hb9.size (fun j e => by injection e with e; have := HBL.out; have := HSZ.out; omega)⟩
        simp [results, Try.results10, go_sem, hcE]
    case stop =>
      rintro cc pre W hpre ⟨rfl, ⟨h1, h2, h3, ⟨u, h4⟩, h5, h6⟩, hs1, hs2⟩ hD
      rw [hsz] at hD
      rw [hs2] at h2
      have hcL := h1.cell
      have hcK := h2.cell
      have hcS := h3.cell
      have bS : Boxed W w.heap.size 3 (.int .i64 stop) := blk_below BS3.out h5
      have bR : Boxed W (w.heap.size + 1) 4 (.bool false) := blk_below BR3.out h5
      have hcT := bS.cell
      have hcR := bR.cell
      have hfR := bR.frozen
      have BR := Aside0.mk bR
      have H5 := Aside0.mk h5
      have HD := Aside0.mk hD
      have HB9 := Aside0.mk (HB3.out.trans (h5.mono HB3.out.size))
      have HBL : Aside0 (w.heap.size + 1 < W3.heap.size) := ⟨blk_lt BR3.out⟩
      have HSZ := Aside0.mk hsz
      have d1 : decide (1 ≤ stop) = true := decide_eq_true hs1
      clear h1 h2 h3 h4 h5 h6 bS bR hD hsz hW bL bK bM bT hB4 hs1
      by_cases c2 : stop < (full.length : Int)
      · have d2 : decide (stop < (full.length : Int)) = true := decide_eq_true c2
        have d3 : decide (frame_Row.sum pre < frame_Row.sum full) = true := decide_eq_true (HQ.out pre hpre (by omega))
        clear c2 hs2 hpre
        gi_wp2_with (fail)
        have hK : (W.setCell ⟨w.heap.size + 1, 0, none⟩ (.bool true)).heap[W0.heap.size]? = some (.deferred (some [])) := by
          rw [HSZ.out]
          exact (Below.heap_setCell _ _ _ _ (by have := HBL.out; show W3.heap.size + 4 ≠ w.heap.size + 1; omega)).trans HD.out
        have hbR : Boxed ((W.setCell ⟨w.heap.size + 1, 0, none⟩ (.bool true)).putObj W0.heap.size (.deferred none)) (w.heap.size + 1) 4 (.bool true) := (World.putObj_heap_other (by have := HBL.out; rw [HSZ.out]; omega)).trans (BR.out.set (.bool true))
        have hcE := hbR.cell
        have hb9 : Below w.heap.size w (W.setCell ⟨w.heap.size + 1, 0, none⟩ (.bool true)) := HB9.out.setCell (p := ⟨w.heap.size + 1, 0, none⟩) (Nat.le_succ _) _
        refine ⟨by simp, .inl ⟨_, _, rfl, run_takeDeferred hK, ?_⟩⟩
        refine ⟨.bool true, ?_, rfl, hb9.grown (grownBy_putObj' _ _ _) hb9.size (fun j e => by injection e with e; have := HBL.out; have := HSZ.out; omega)⟩
        simp [results, Try.results10, go_sem, hcE]
      · have d2 : decide (stop < (full.length : Int)) = false := decide_eq_false c2
        have hpf : pre = full := hpre.eq_of_length (by have := hpre.length_le; omega)
        rw [hpf] at hcS
        have d3 : (stop == (full.length : Int)) = true := beq_iff_eq.2 (by have := hpre.length_le; omega)
        clear c2 hs2 hpre hpf
        gi_wp2_with (fail)
        have hK : (W.setCell ⟨w.heap.size + 1, 0, none⟩ (.bool true)).heap[W0.heap.size]? = some (.deferred (some [])) := by
          rw [HSZ.out]
          exact (Below.heap_setCell _ _ _ _ (by have := HBL.out; show W3.heap.size + 4 ≠ w.heap.size + 1; omega)).trans HD.out
        have hbR : Boxed ((W.setCell ⟨w.heap.size + 1, 0, none⟩ (.bool true)).putObj W0.heap.size (.deferred none)) (w.heap.size + 1) 4 (.bool true) := (World.putObj_heap_other (by have := HBL.out; rw [HSZ.out]; omega)).trans (BR.out.set (.bool true))
        have hcE := hbR.cell
        have hb9 : Below w.heap.size w (W.setCell ⟨w.heap.size + 1, 0, none⟩ (.bool true)) := HB9.out.setCell (p := ⟨w.heap.size + 1, 0, none⟩) (Nat.le_succ _) _
        refine ⟨by simp, .inl ⟨_, _, rfl, run_takeDeferred hK, ?_⟩⟩
        refine ⟨.bool true, ?_, rfl, hb9.grown (grownBy_putObj' _ _ _) hb9.size (fun j e => by injection e with e; have := HBL.out; have := HSZ.out; omega)⟩
        simp [results, Try.results10, go_sem, hcE]
  · rw [headgatelaw03_FrameEach.cut, if_neg c] at HF
    refine ⟨trivial, (callsIn_wide.2 (headgatelaw03_light.calls s false W1 (by unfold headgatelaw03_light.f; rw [decide_eq_false c]))).mono ?_⟩
    rintro e W2 ⟨rfl, hd⟩
    have hb := hd.below
    have BS2 := Aside0.mk (blk_below BS1.out hb)
    have BR2 := Aside0.mk (blk_below BR1.out hb)
    have HB2 := Aside0.mk (below_step HB1.out hb)
    clear BS1 BR1 HB1 hb hd
    have c1 : decide ((100000 : Int) ≤ (s.size : Int)) = true := decide_eq_true (by omega)
    have c2 : 100000 ≤ s.size := by omega
    gi_wp2_with (fail)
    have hsx : ((s.extract 0 100000).size : Int) ≤ 100000 := by rw [ByteArray.size_extract]; omega
    generalize s.extract 0 100000 = s1 at HF hsx ⊢
    clear c1 c2 c
    have hrow : frame_Row.f k s1 = some (full.map (fun x => x.2), frame_Row.sum full) := by
      unfold frame_Row.f
      rw [HF.out, Option.bind_some, if_pos ⟨by omega, hl⟩]
    refine ⟨trivial, (callsIn_wide.2 (frame_Row.calls k s1 _ _ W2 hrow)).mono ?_⟩
    rintro e W3 ⟨v, rfl, hr, hb⟩
    have BS3 := Aside0.mk (blk_below BS2.out hb)
    have BR3 := Aside0.mk (blk_below BR2.out hb)
    have HB3 := Aside0.mk (below_step HB2.out hb)
    obtain ⟨A, ca, ev⟩ := Kd.R_slice hr
    subst ev
    rw [List.length_map] at hr ⊢
    have HR3 := Aside0.mk (Kd.R_reads' hr).2
    clear BS2 BR2 HB2 hb hr hrow
    gi_wp2_with (fail)
    refine ⟨trivial, (callsIn_wide.2 (frame_Row.made s1 _)).mono ?_⟩
    rintro e w' ⟨rfl, rfl⟩
    rw [World.size_alloc, World.size_alloc, World.size_alloc]
    have bL : Boxed ((((W3.alloc (.cells #[.slice A full.length ca] 42)).alloc (.cells #[.int .i64 0] 3)).alloc (.cells #[.int .i64 0] 3)).alloc (.cells #[.string s1] 9)) W3.heap.size 42 (.slice A full.length ca) := (((Boxed.new W3 42 (.slice A full.length ca)).alloc _).alloc _).alloc _
    have bK : Boxed ((((W3.alloc (.cells #[.slice A full.length ca] 42)).alloc (.cells #[.int .i64 0] 3)).alloc (.cells #[.int .i64 0] 3)).alloc (.cells #[.string s1] 9)) (W3.heap.size + 1) 3 (.int .i64 0) := by
      have := Boxed.new (W3.alloc (.cells #[.slice A full.length ca] 42)) 3 (.int .i64 0)
      rw [World.size_alloc] at this
      exact (this.alloc _).alloc _
    have bM : Boxed ((((W3.alloc (.cells #[.slice A full.length ca] 42)).alloc (.cells #[.int .i64 0] 3)).alloc (.cells #[.int .i64 0] 3)).alloc (.cells #[.string s1] 9)) (W3.heap.size + 2) 3 (.int .i64 0) := by
      have := Boxed.new ((W3.alloc (.cells #[.slice A full.length ca] 42)).alloc (.cells #[.int .i64 0] 3)) 3 (.int .i64 0)
      rw [World.size_alloc, World.size_alloc] at this
      exact this.alloc _
    have bT : frame_Row.box ((((W3.alloc (.cells #[.slice A full.length ca] 42)).alloc (.cells #[.int .i64 0] 3)).alloc (.cells #[.int .i64 0] 3)).alloc (.cells #[.string s1] 9)) (W3.heap.size + 3) s1 := by
      have := blk_new (((W3.alloc (.cells #[.slice A full.length ca] 42)).alloc (.cells #[.int .i64 0] 3)).alloc (.cells #[.int .i64 0] 3)) (.cells #[.string s1] 9)
      rw [World.size_alloc, World.size_alloc, World.size_alloc] at this
      exact this
    have hB4 : Below W3.heap.size W3 ((((W3.alloc (.cells #[.slice A full.length ca] 42)).alloc (.cells #[.int .i64 0] 3)).alloc (.cells #[.int .i64 0] 3)).alloc (.cells #[.string s1] 9)) := below_alloc (below_alloc (below_alloc (below_alloc (Below.refl _ _) _) _) _) _
    have hsz : ((((W3.alloc (.cells #[.slice A full.length ca] 42)).alloc (.cells #[.int .i64 0] 3)).alloc (.cells #[.int .i64 0] 3)).alloc (.cells #[.string s1] 9)).heap.size = W3.heap.size + 4 := by simp
    generalize (((W3.alloc (.cells #[.slice A full.length ca] 42)).alloc (.cells #[.int .i64 0] 3)).alloc (.cells #[.int .i64 0] 3)).alloc (.cells #[.string s1] 9) = W0 at bL bK bM bT hB4 hsz ⊢
    gi_wp2_with (fail)
    have hW : W0.heap.size + 1 = W3.heap.size + 5 := by rw [hsz]
    refine Rb.range (by decide) (gf := 35) (lb := #[.pointer (some ⟨W3.heap.size + 1 + 1 + 1, 0, none⟩)]) rfl (enters_of Try.func35 (by kernel_rfl) rfl)
      (frame_Row_walk.frame_Row.each k k 11 (by decide) (W3.heap.size + 3) s1 full HF.out (by omega)) (by rw [hsz]; omega) (fun o o' => blk_alloc (blk_alloc bT o) o') (fun _ => rfl)
      (headgatelaw03_FrameEach.I W3 (.slice A full.length ca) stop full) (headgatelaw03_FrameEach.Ix W3 (.slice A full.length ca) stop full) (headgatelaw03_FrameEach.Ax w W3 (.slice A full.length ca) (.string s) (.bool false) (.bool true) (.string s) (.string s1) s1 stop full)
      (fun pre W W' h hg ht => ⟨headgatelaw03_FrameEach.J_box h.1 hg ht, h.2⟩) (by rw [hW]; exact fun pre W W' h hg ht => ⟨headgatelaw03_FrameEach.J_grown h.1 hg (by omega), h.2⟩)
      (fun c pre W W' h hg ht => ⟨h.1, headgatelaw03_FrameEach.J_box h.2.1 hg ht, h.2.2⟩) (by rw [hW]; exact fun c pre W W' h hg ht => ⟨h.1, headgatelaw03_FrameEach.J_grown h.2.1 hg (by omega), h.2.2⟩)
      (fun pre x a' => by rw [hW]; exact headgatelaw03_FrameEach.Ax_freeL w W3 _ _ _ _ _ _ s1 stop full pre x a')
      ⟨⟨bL, bK, bM, ⟨_, bT⟩, hB4, List.nil_prefix⟩, fun j h1 h2 => absurd h2 (by simp; omega)⟩ ?assign ?body ?done ?stop
    case assign =>
      intro l pre x W hI hpre hlt
      rw [hsz] at hlt
      obtain ⟨q, ⟨e0, e1, e2⟩⟩ := x
      dsimp only [frame_Row.encs]
      have HI := Aside0.mk hI
      clear hI
      gi_wp2
      refine ⟨⟨by simp, Below.heap_alloc _ _ _ (by omega), Below.heap_alloc _ _ _ (by omega), Below.heap_alloc _ _ _ (by omega)⟩, ⟨headgatelaw03_FrameEach.J_box HI.out.1 (Rb.lay _ _ _) (Rb.tameA _ _ _), HI.out.2⟩, W.heap.size, by omega, blk_new _ _, rfl⟩
    case body =>
      rintro l pre x a1 W ⟨⟨⟨h1, h2, h3, ⟨u, h4⟩, h5, h6⟩, hj⟩, g, h7, h8, rfl⟩ hpre hD ⟨lr, hLr⟩
      rw [hsz] at hD hLr
      obtain ⟨q, ⟨e0, e1, e2⟩⟩ := x
      have hlen : pre.length < full.length := by have := hpre.length_le; rw [List.length_append, List.length_singleton] at this; omega
      have hq1 : 1 ≤ q := HX.out (q, ⟨e0, e1, e2⟩) (hpre.subset (by simp))
      have hrd : rd_T23 (full.map (fun x => x.2)) (pre.length : Int) = ⟨e0, e1, e2⟩ := by
        obtain ⟨r, hr⟩ := hpre
        rw [← hr]
        simp [rd_T23]
      obtain ⟨K, hK⟩ : ∃ K : Int, K = (pre.length : Int) := ⟨_, rfl⟩
      have p1 : 0 ≤ K := by omega
      have q1 : K < ((full.map (fun x => x.2)).length : Int) := by rw [List.length_map]; omega
      obtain ⟨ad, ea, hx0, hx1, hx2⟩ := at_T23 (Kd.C_below HR3.out.2 h5) K p1 q1
      cases ea
      rw [← hK] at hrd h2
      rw [hrd] at hx0 hx1 hx2
      dsimp only at hx0 hx1 hx2 h8 ⊢
      rw [List.length_map] at q1
      have d1 : decide ((full.length : Int) ≤ K) = false := decide_eq_false (by omega)
      have d2 : decide (q < 1) = false := decide_eq_false (by omega)
      have hcL := h1.cell
      have hcK := h2.cell
      have hcS := h3.cell
      have hfK := h2.frozen
      have hfS := h3.frozen
      have he0 : W.cell? ⟨g, 0, none⟩ = some (.int .i64 e0) := (blk_cell h8 0).trans rfl
      have he1 : W.cell? ⟨g, 1, none⟩ = some (.int .i64 e1) := (blk_cell h8 1).trans rfl
      have he2 : W.cell? ⟨g, 2, none⟩ = some (.string e2) := (blk_cell h8 2).trans rfl
      have bS : Boxed W w.heap.size 3 (.int .i64 stop) := blk_below BS3.out h5
      have hcT := bS.cell
      have hlS : w.heap.size < W3.heap.size := blk_lt BS3.out
      have n1 : w.heap.size ≠ W3.heap.size + 1 := by omega
      have n2 : w.heap.size ≠ W3.heap.size + 1 + 1 := by omega
      have n3 : W3.heap.size + 1 ≠ w.heap.size := by omega
      have n4 : W3.heap.size + 1 + 1 ≠ w.heap.size := by omega
      clear hlS
      have HK := Aside0.mk hK
      have HKW : Aside0 (wrap64 (K + 1) = ((pre.length + 1 : Nat) : Int)) := ⟨by unfold wrap64; omega⟩
      have HLEN := Aside0.mk hlen
      have HQ1 := Aside0.mk hq1
      have H1 := Aside0.mk h1
      have H2 := Aside0.mk h2
      have H3 := Aside0.mk h3
      have H4 := Aside0.mk h4
      have H5 := Aside0.mk h5
      have H8 := Aside0.mk h8
      have HPRE := Aside0.mk hpre
      have HJJ := Aside0.mk hj
      have HD := Aside0.mk hD
      have HLR := Aside0.mk hLr
      replace p1 := eq_true p1
      replace q1 := eq_true q1
      clear hK hlen hq1 h1 h2 h3 h4 h5 h8 hpre hj hD hLr hrd bS h6
      gi_wp2_with (fail)
      refine Rq.region_lit (by kernel_rfl) (by kernel_rfl) (by kernel_rfl) ?_
      repeat (quiet_step_in (fail))
      refine wpQuietIn_nil ?_
      intro _ hw'
      obtain ⟨nq, hw''⟩ := hw'
      subst hw''
      clear HLEN HQ1 HX HQ
      by_cases cs : wrap64 (K + 1) = stop
      · have cs1 : (wrap64 (K + 1) == stop) = true := beq_iff_eq.2 cs
        have HCS := Aside0.mk cs
        clear cs
        gi_wp2
        rw [hsz]
        obtain ⟨hj, hst⟩ := headgatelaw03_FrameEach.J_step (x := (q, (⟨e0, e1, e2⟩ : S23))) nq K HKW.out HPRE.out H1.out H2.out H3.out H4.out H5.out _ rfl
        refine ⟨hst, rfl, hj, ?_, ?_⟩
        · have h1 := HCS.out; have h2 := HKW.out; omega
        · have h1 := HCS.out; have h2 := HKW.out; rw [List.length_append, List.length_singleton]; omega
      · have cs1 : (wrap64 (K + 1) == stop) = false := beq_eq_false_iff_ne.2 cs
        have HCS := Aside0.mk cs
        clear cs
        gi_wp2
        rw [hsz]
        obtain ⟨hj, hst⟩ := headgatelaw03_FrameEach.J_step (x := (q, (⟨e0, e1, e2⟩ : S23))) nq K HKW.out HPRE.out H1.out H2.out H3.out H4.out H5.out _ rfl
        refine ⟨hst, hj, fun j j1 j2 => ?_⟩
        rw [List.length_append, List.length_singleton] at j2
        have h1 := HCS.out
        have h2 := HKW.out
        by_cases cj : j ≤ pre.length
        · exact HJJ.out j j1 cj
        · omega
    case done =>
      rintro W ⟨⟨h1, h2, h3, ⟨u, h4⟩, h5, h6⟩, hj⟩ hD
      rw [hsz] at hD
      have hcL := h1.cell
      have hcK := h2.cell
      have hcS := h3.cell
      have bS : Boxed W w.heap.size 3 (.int .i64 stop) := blk_below BS3.out h5
      have bR : Boxed W (w.heap.size + 1) 4 (.bool false) := blk_below BR3.out h5
      have hcT := bS.cell
      have hcR := bR.cell
      have hfR := bR.frozen
      have BR := Aside0.mk bR
      have H5 := Aside0.mk h5
      have HD := Aside0.mk hD
      have HB9 := Aside0.mk (HB3.out.trans (h5.mono HB3.out.size))
      have HBL : Aside0 (w.heap.size + 1 < W3.heap.size) := ⟨blk_lt BR3.out⟩
      have HSZ := Aside0.mk hsz
      clear h1 h2 h3 h4 h5 h6 bS bR hD hsz hW bL bK bM bT hB4
      by_cases c1 : 1 ≤ stop
      · have d1 : decide (1 ≤ stop) = true := decide_eq_true c1
        have d2 : decide (stop < (full.length : Int)) = false := decide_eq_false (fun h => hj stop.toNat (by omega) (by omega) (by omega))
        clear c1 hj
        gi_wp2_with (fail)
        have hK : (W.setCell ⟨w.heap.size + 1, 0, none⟩ (.bool true)).heap[W0.heap.size]? = some (.deferred (some [])) := by
          rw [HSZ.out]
          exact (Below.heap_setCell _ _ _ _ (by have := HBL.out; show W3.heap.size + 4 ≠ w.heap.size + 1; omega)).trans HD.out
        have hbR : Boxed ((W.setCell ⟨w.heap.size + 1, 0, none⟩ (.bool true)).putObj W0.heap.size (.deferred none)) (w.heap.size + 1) 4 (.bool true) := (World.putObj_heap_other (by have := HBL.out; rw [HSZ.out]; omega)).trans (BR.out.set (.bool true))
        have hcE := hbR.cell
        have hb9 : Below w.heap.size w (W.setCell ⟨w.heap.size + 1, 0, none⟩ (.bool true)) := HB9.out.setCell (p := ⟨w.heap.size + 1, 0, none⟩) (Nat.le_succ _) _
        refine ⟨by simp, .inl ⟨_, _, rfl, run_takeDeferred hK, ?_⟩⟩
        refine ⟨.bool true, ?_, rfl, hb9.grown (grownBy_putObj' _ _ _) hb9.size (fun j e => by injection e with e; have := HBL.out; have := HSZ.out; omega)⟩
        simp [results, Try.results10, go_sem, hcE]
      · have d1 : decide (1 ≤ stop) = false := decide_eq_false c1
        clear c1 hj
        gi_wp2_with (fail)
        have hK : (W.setCell ⟨w.heap.size + 1, 0, none⟩ (.bool true)).heap[W0.heap.size]? = some (.deferred (some [])) := by
          rw [HSZ.out]
          exact (Below.heap_setCell _ _ _ _ (by have := HBL.out; show W3.heap.size + 4 ≠ w.heap.size + 1; omega)).trans HD.out
        have hbR : Boxed ((W.setCell ⟨w.heap.size + 1, 0, none⟩ (.bool true)).putObj W0.heap.size (.deferred none)) (w.heap.size + 1) 4 (.bool true) := (World.putObj_heap_other (by have := HBL.out; rw [HSZ.out]; omega)).trans (BR.out.set (.bool true))
        have hcE := hbR.cell
        have hb9 : Below w.heap.size w (W.setCell ⟨w.heap.size + 1, 0, none⟩ (.bool true)) := HB9.out.setCell (p := ⟨w.heap.size + 1, 0, none⟩) (Nat.le_succ _) _
        refine ⟨by simp, .inl ⟨_, _, rfl, run_takeDeferred hK, ?_⟩⟩
        refine ⟨.bool true, ?_, rfl, hb9.grown (grownBy_putObj' _ _ _) hb9.size (fun j e => by injection e with e; have := HBL.out; have := HSZ.out; omega)⟩
        simp [results, Try.results10, go_sem, hcE]
    case stop =>
      rintro cc pre W hpre ⟨rfl, ⟨h1, h2, h3, ⟨u, h4⟩, h5, h6⟩, hs1, hs2⟩ hD
      rw [hsz] at hD
      rw [hs2] at h2
      have hcL := h1.cell
      have hcK := h2.cell
      have hcS := h3.cell
      have bS : Boxed W w.heap.size 3 (.int .i64 stop) := blk_below BS3.out h5
      have bR : Boxed W (w.heap.size + 1) 4 (.bool false) := blk_below BR3.out h5
      have hcT := bS.cell
      have hcR := bR.cell
      have hfR := bR.frozen
      have BR := Aside0.mk bR
      have H5 := Aside0.mk h5
      have HD := Aside0.mk hD
      have HB9 := Aside0.mk (HB3.out.trans (h5.mono HB3.out.size))
      have HBL : Aside0 (w.heap.size + 1 < W3.heap.size) := ⟨blk_lt BR3.out⟩
      have HSZ := Aside0.mk hsz
      have d1 : decide (1 ≤ stop) = true := decide_eq_true hs1
      clear h1 h2 h3 h4 h5 h6 bS bR hD hsz hW bL bK bM bT hB4 hs1
      by_cases c2 : stop < (full.length : Int)
      · have d2 : decide (stop < (full.length : Int)) = true := decide_eq_true c2
        have d3 : decide (frame_Row.sum pre < frame_Row.sum full) = true := decide_eq_true (HQ.out pre hpre (by omega))
        clear c2 hs2 hpre
        gi_wp2_with (fail)
        have hK : (W.setCell ⟨w.heap.size + 1, 0, none⟩ (.bool true)).heap[W0.heap.size]? = some (.deferred (some [])) := by
          rw [HSZ.out]
          exact (Below.heap_setCell _ _ _ _ (by have := HBL.out; show W3.heap.size + 4 ≠ w.heap.size + 1; omega)).trans HD.out
        have hbR : Boxed ((W.setCell ⟨w.heap.size + 1, 0, none⟩ (.bool true)).putObj W0.heap.size (.deferred none)) (w.heap.size + 1) 4 (.bool true) := (World.putObj_heap_other (by have := HBL.out; rw [HSZ.out]; omega)).trans (BR.out.set (.bool true))
        have hcE := hbR.cell
        have hb9 : Below w.heap.size w (W.setCell ⟨w.heap.size + 1, 0, none⟩ (.bool true)) := HB9.out.setCell (p := ⟨w.heap.size + 1, 0, none⟩) (Nat.le_succ _) _
        refine ⟨by simp, .inl ⟨_, _, rfl, run_takeDeferred hK, ?_⟩⟩
        refine ⟨.bool true, ?_, rfl, hb9.grown (grownBy_putObj' _ _ _) hb9.size (fun j e => by injection e with e; have := HBL.out; have := HSZ.out; omega)⟩
        simp [results, Try.results10, go_sem, hcE]
      · have d2 : decide (stop < (full.length : Int)) = false := decide_eq_false c2
        have hpf : pre = full := hpre.eq_of_length (by have := hpre.length_le; omega)
        rw [hpf] at hcS
        have d3 : (stop == (full.length : Int)) = true := beq_iff_eq.2 (by have := hpre.length_le; omega)
        clear c2 hs2 hpre hpf
        gi_wp2_with (fail)
        have hK : (W.setCell ⟨w.heap.size + 1, 0, none⟩ (.bool true)).heap[W0.heap.size]? = some (.deferred (some [])) := by
          rw [HSZ.out]
          exact (Below.heap_setCell _ _ _ _ (by have := HBL.out; show W3.heap.size + 4 ≠ w.heap.size + 1; omega)).trans HD.out
        have hbR : Boxed ((W.setCell ⟨w.heap.size + 1, 0, none⟩ (.bool true)).putObj W0.heap.size (.deferred none)) (w.heap.size + 1) 4 (.bool true) := (World.putObj_heap_other (by have := HBL.out; rw [HSZ.out]; omega)).trans (BR.out.set (.bool true))
        have hcE := hbR.cell
        have hb9 : Below w.heap.size w (W.setCell ⟨w.heap.size + 1, 0, none⟩ (.bool true)) := HB9.out.setCell (p := ⟨w.heap.size + 1, 0, none⟩) (Nat.le_succ _) _
        refine ⟨by simp, .inl ⟨_, _, rfl, run_takeDeferred hK, ?_⟩⟩
        refine ⟨.bool true, ?_, rfl, hb9.grown (grownBy_putObj' _ _ _) hb9.size (fun j e => by injection e with e; have := HBL.out; have := HSZ.out; omega)⟩
        simp [results, Try.results10, go_sem, hcE]
end headgatelaw03_FrameEach_walk
theorem headgatelaw03_FrameEach.walk (P : headgatelaw03_FrameEach.Pure) (a0 : ByteArray) (a1 : Int) (w : World) (w0 : a0.size ≤ 140737488351232) (w1 : (Lit.int .i64 a1).wf = true) :
    Calls Try.prog 10 #[.string a0, .int .i64 a1] w fun e w' => e = .returned (.bool true) ∧ Below w.heap.size w w' := by
  obtain ⟨k, full, h1, h2, h3, h4, h5⟩ := P a0 a1 w0 w1
  exact callsIn_wide.1 (headgatelaw03_FrameEach_walk.headgatelaw03_FrameEach.walk0 k a0 a1 full w h1 h2 w0 h3 h4 h5)

end Go.Proofs.Ytgfmbddkefjchaa.P
