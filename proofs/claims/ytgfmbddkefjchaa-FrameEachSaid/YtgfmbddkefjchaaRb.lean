/- A range over a function whose iterator keeps its state in one block of its own: the law for the caller, the contract for the iterator. No program in sight. -/
import Derived.RangeFuncNested
import Derived.RangeFuncBound
import Derived.RangeFuncCalls
import Derived.RangeFuncLeaves
import Derived.Shelf.Abstract
import Derived.Shelf.RegionOpen
import Derived.WalkKit
import Derived.OwnWalkIn
import Derived.TacticsInMore
import Derived.LoopNIn
import Derived.LoopIn
set_option linter.unusedVariables false
namespace Go.Proofs.Ytgfmbddkefjchaa.Rb
open Go Go.RowKit
variable {P : Program}
/-- What abides new blocks, and the turn of one block that is a box. -/
def Free {β : Type} (b : Nat) (J : β → World → Prop) : Prop := ∀ s W W', J s W → W.grownBy W' (some b) → (∀ u t, W.heap[b]? = some (.cells #[u] t (0, 0)) → ∃ u', W'.heap[b]? = some (.cells #[u'] t (0, 0))) → J s W'
/-- .. the turn of a loop's record. -/
def FreeL {β : Type} (r : Nat) (J : β → World → Prop) : Prop := ∀ s W W', J s W → W.grownBy W' (some r) → (∃ o, W.heap[r]? = some (.loop o)) → J s W'
/-- An iterator that keeps its state in block b: what it owes to whoever ranges over it. -/
def Gives {α : Type} (P : Program) (n g : Nat) (lb : Array Value) (encs : α → Array Value) (b : Nat) (start : World → Prop) (full : List α) : Prop :=
  ∀ (l : Nat) (J Jx : List α → World → Prop) (W : World), start W → Free b J → Free b Jx →
    (∀ pre x W1, J pre W1 → (pre ++ [x]) <+: full → YieldAt Fence.wide (n - 1) P l (encs x) W1 fun e W' => W'.heap[b]? = W1.heap[b]? ∧ W1.heap.size ≤ W'.heap.size ∧
      ((e = .returned (.bool true) ∧ J (pre ++ [x]) W') ∨ (e = .returned (.bool false) ∧ Jx (pre ++ [x]) W'))) →
    J [] W →
    CallsIn Fence.wide n P g (#[.func (.yield l) #[] #[]] ++ lb) W fun e W' => (∃ v, e = .returned v) ∧ (J full W' ∨ ∃ pre, pre <+: full ∧ Jx pre W')
/-- What a round leaves alone: the iterator's block, and the two blocks of the loop's book-keeping. -/
structure Stay (D b : Nat) (W W' : World) : Prop where
  size : W.heap.size ≤ W'.heap.size
  box : W'.heap[b]? = W.heap[b]?
  dl : W'.heap[D]? = W.heap[D]?
  lp : W'.heap[D + 1]? = W.heap[D + 1]?
def post {α : Type} (D b : Nat) (I : List α → World → Prop) (Ix : Code → List α → World → Prop) (xs : List α) (W : World) : Exit → Act → World → Prop
  | .normal, _, W' => Stay D b W W' ∧ I xs W'
  | .ret, _, W' => Stay D b W W' ∧ Ix .ret xs W'
  | .exit id, _, W' => Stay D b W W' ∧ Ix (.exit id) xs W'
  | .goto t, _, W' => Stay D b W W' ∧ Ix (.goto t) xs W'
  | .panic _, _, _ => False
  | .outgrown, _, _ => False
theorem turn (W : World) (r : Nat) (o : Obj) : W.grownBy (W.putObj r o) (some r) := grownBy_putObj' W r o
theorem lay (W : World) (o : Obj) (r : Nat) : W.grownBy (W.alloc o) (some r) :=
  ⟨rfl, rfl, rfl, by simp, fun k hk _ => Below.heap_alloc W o k hk⟩
theorem tame {W W' : World} {b : Nat} (h : W'.heap[b]? = W.heap[b]?) : ∀ u t, W.heap[b]? = some (.cells #[u] t (0, 0)) → ∃ u', W'.heap[b]? = some (.cells #[u'] t (0, 0)) := fun u t hu => ⟨u, h.trans hu⟩
theorem tameA (W : World) (o : Obj) (b : Nat) : ∀ u t, W.heap[b]? = some (.cells #[u] t (0, 0)) → ∃ u', (W.alloc o).heap[b]? = some (.cells #[u'] t (0, 0)) := fun u t hu => ⟨u, (Below.heap_alloc W o b (Array.getElem?_eq_some_iff.1 hu).1).trans hu⟩
theorem kept {W W' : World} {b k : Nat} {o : Obj} (h : W.grownBy W' (some b)) (hk : W.heap[k]? = some o) (hne : k ≠ b) : W'.heap[k]? = some o :=
  (h.block k (Array.getElem?_eq_some_iff.1 hk).1 (fun e => hne (by injection e))).trans hk
/-- A range over a function whose iterator keeps its state in block b. -/
theorem range {α : Type} {g : Operand} {ps : Array Tmp} {assign body : Code} {Q : Exit → Act → World → Prop} {a : Act} {w : World} {n : Nat} (h1 : 1 ≤ n)
    {gf : Nat} {lb : Array Value} (hg : a.eval g = .func (.func gf) #[] lb) (eg : ∀ args w, (callFunc gf args).run P w = .ok (.enter gf args) w)
    {encs : α → Array Value} {b : Nat} {start : World → Prop} {full : List α} (hseq : Gives P (n - 1) gf lb encs b start full) (hb : b < w.heap.size)
    (hst : ∀ o o', start ((w.alloc o).alloc o')) (hps : ∀ x, (encs x).size = ps.size)
    (I : List α → World → Prop) (Ix : Code → List α → World → Prop) (Ax : List α → α → Act → World → Prop)
    (hI : Free b I) (hIL : FreeL (w.heap.size + 1) I) (hIx : ∀ c, Free b (Ix c)) (hIxL : ∀ c, FreeL (w.heap.size + 1) (Ix c)) (hAx : ∀ pre x a', FreeL (w.heap.size + 1) (fun (_ : Unit) W => Ax pre x a' W)) (h0 : I [] w)
    (hassign : ∀ (l : Nat) (pre : List α) (x : α) (W : World), I pre W → (pre ++ [x]) <+: full → w.heap.size + 1 < W.heap.size →
      assign.wpIn (Fence.wide.inRound l) (n - 1 - 1) P (Exit.then (fun a1 W1 => Stay w.heap.size b W W1 ∧ Ax pre x a1 W1) (fun _ _ _ => False)) { tmps := (ps.zip (encs x)).foldl (fun t (p, v) => t.setIfInBounds p v) a.tmps, defers := [] } W)
    (hbody : ∀ (l : Nat) (pre : List α) (x : α) (a1 : Act) (W : World), Ax pre x a1 W → (pre ++ [x]) <+: full → W.heap[w.heap.size]? = some (.deferred (some [])) → (∃ r, W.heap[w.heap.size + 1]? = some (.loop r)) →
      body.wpIn (Fence.wide.inRound l) (n - 1 - 1) P (post w.heap.size b I Ix (pre ++ [x]) W) a1 W)
    (hdone : ∀ (W : World), I full W → W.heap[w.heap.size]? = some (.deferred (some [])) → Q .normal { a with defers := { target := .collected w.heap.size, args := #[] } :: a.defers } W)
    (hstop : ∀ (c : Code) (pre : List α) (W : World), pre <+: full → Ix c pre W → W.heap[w.heap.size]? = some (.deferred (some [])) → c.wpIn Fence.wide n P Q { a with defers := { target := .collected w.heap.size, args := #[] } :: a.defers } W) :
    (Code.rangeFunc g ps assign body).wpIn Fence.wide n P Q a w := by
  obtain ⟨D, hD⟩ : ∃ D, D = w.heap.size := ⟨_, rfl⟩
  rw [← hD] at hIL hIxL hAx hassign hbody hdone hstop hb
  refine wpIn_rangeFunc fun fn hfn => ?_
  obtain ⟨rec, hrec⟩ : ∃ rec : LoopState → Option Code → Loop, rec = fun st pe => { state := st, pending := pe, fn, tmps := a.tmps, params := ps, assign, body, defers := D } := ⟨_, rfl⟩
  have hent := run_enterLoop_outer (P := P) (w := w) fn a.tmps ps assign body
  rw [← hD] at hent
  have hrr : ({ state := .ready, pending := none, fn, tmps := a.tmps, params := ps, assign, body, defers := D } : Loop) = rec .ready none := by rw [hrec]
  rw [hrr] at hent
  obtain ⟨W1, hW1⟩ : ∃ W1, W1 = (w.alloc (.deferred (some []))).alloc (.loop (rec .ready none)) := ⟨_, rfl⟩
  rw [← hW1] at hent
  have hloop : W1.heap[D + 1]? = some (.loop (rec .ready none)) := by
    rw [hW1, hD]
    have := World.alloc_heap_new (w.alloc (.deferred (some []))) (.loop (rec .ready none))
    rwa [World.size_alloc] at this
  have hdl : W1.heap[D]? = some (.deferred (some [])) := by
    rw [hW1, hD]
    exact (Below.heap_alloc _ _ _ (by simp)).trans (World.alloc_heap_new w _)
  have hI1 : I [] W1 := by
    rw [hW1]
    exact hI _ _ _ (hI _ _ _ h0 (lay w _ b) (tameA _ _ _)) (lay _ _ b) (tameA _ _ _)
  have hs1 : start W1 := by rw [hW1]; exact hst _ _
  clear hW1
  have hbD : b ≠ D := by omega
  have hbL : b ≠ D + 1 := by omega
  refine ⟨D + 1, [{ target := .collected D, args := #[] }], W1, { target := .fn (.func gf) lb, args := #[.func (.yield (D + 1)) #[] #[]] }, W1, gf, #[.func (.yield (D + 1)) #[] #[]] ++ lb, W1, hent, ?_, fun _ _ => trivial, ?_, fun _ => h1, ?_⟩
  · simp only [resolve, hg]
    simp [go_sem]
  · simp [invoke, go_sem, eg]
  -- the iterator's contract, at our invariant with the book-keeping beside it
  have key : ∀ (J : List α → World → Prop), Free b J → ∀ o, Free b (fun pre W => J pre W ∧ W.heap[D + 1]? = some o ∧ W.heap[D]? = some (.deferred (some []))) := fun J hJ o s X Y hs hg' ht =>
    ⟨hJ s X Y hs.1 hg' ht, kept hg' hs.2.1 (Ne.symm hbL), kept hg' hs.2.2 (Ne.symm hbD)⟩
  refine (hseq (D + 1) (fun pre W => I pre W ∧ W.heap[D + 1]? = some (.loop (rec .ready none)) ∧ W.heap[D]? = some (.deferred (some [])))
    (fun pre W => ∃ c, Ix c pre W ∧ W.heap[D + 1]? = some (.loop (rec .done (some c))) ∧ W.heap[D]? = some (.deferred (some []))) W1 hs1 (key I hI _)
    (fun s X Y hs hg' ht => by obtain ⟨c, hc⟩ := hs; exact ⟨c, key (Ix c) (hIx c) _ s X Y hc hg' ht⟩) ?_ ⟨hI1, hloop, hdl⟩).mono ?_
  · rintro pre x W ⟨hi, hl, hk⟩ hpre
    have hlt : D + 1 < W.heap.size := (Array.getElem?_eq_some_iff.1 hl).1
    have hy := run_yield (P := P) (args := encs x) hl (by rw [hrec]; exact hps x)
    rw [hrec] at hy
    refine ⟨fn, _, assign, body, hy, roundIn_of_wpIn hfn (wpIn_mono (hassign _ pre x W hi hpre hlt) ?_)⟩
    rintro e a1 W2 he
    cases e with
    | normal =>
      obtain ⟨hst2, hax⟩ := he
      have hl2 := hst2.lp.trans hl
      have hk2 := hst2.dl.trans hk
      have hlt2 : D + 1 < W2.heap.size := (Array.getElem?_eq_some_iff.1 hl2).1
      obtain ⟨W3, hW3⟩ : ∃ W3, W3 = W2.putObj (D + 1) (.loop { rec .ready none with state := .busy }) := ⟨_, rfl⟩
      have hgr : W2.grownBy W3 (some (D + 1)) := by rw [hW3]; exact turn _ _ _
      have hl3 : W3.heap[D + 1]? = some (.loop { rec .ready none with state := .busy }) := by rw [hW3]; exact World.putObj_heap_same hlt2
      have hk3 : W3.heap[D]? = some (.deferred (some [])) := kept hgr hk2 (by omega)
      have hb3 : W3.heap[b]? = W.heap[b]? := by
        rw [← hst2.box, hW3]
        exact World.putObj_heap_other hbL
      have hs3 : W.heap.size ≤ W3.heap.size := Nat.le_trans hst2.size hgr.size
      refine ⟨W3, by rw [hW3]; exact run_beginRound hl2 (by rw [hrec]), wpIn_mono (hbody _ pre x a1 W3 (hAx pre x a1 () _ _ hax hgr ⟨_, hl2⟩) hpre hk3 ⟨_, hl3⟩) ?_⟩
      clear hW3
      have fin : ∀ (jump : Option Code) (W4 : World), Stay D b W3 W4 → ∃ W5, (Instr.endRound (D + 1) jump).run P W4 = .ok (.bool jump.isNone) W5 ∧ W4.grownBy W5 (some (D + 1)) ∧ (∃ o, W4.heap[D + 1]? = some (.loop o)) ∧
          W5.heap[D + 1]? = some (.loop (rec (if jump.isNone then .ready else .done) jump)) ∧ W5.heap[D]? = some (.deferred (some [])) ∧ W5.heap[b]? = W.heap[b]? ∧ W.heap.size ≤ W5.heap.size := fun jump W4 h4 => by
        have hl4 := h4.lp.trans hl3
        have hr := run_endRound (P := P) jump hl4
        refine ⟨_, hr, turn _ _ _, ⟨_, hl4⟩, ?_, kept (turn _ _ _) (h4.dl.trans hk3) (by omega), (World.putObj_heap_other hbL).trans (h4.box.trans hb3), Nat.le_trans hs3 (by simp; exact h4.size)⟩
        rw [World.putObj_heap_same (Array.getElem?_eq_some_iff.1 hl4).1, hrec]
      rintro e a4 W4 hp
      cases e with
      | normal =>
        obtain ⟨W5, r1, r2, r7, r3, r4, r5, r6⟩ := fin none W4 hp.1
        exact ⟨_, W5, r1, r5, r6, .inl ⟨rfl, hIL _ _ _ hp.2 r2 r7, r3, r4⟩⟩
      | ret =>
        obtain ⟨W5, r1, r2, r7, r3, r4, r5, r6⟩ := fin (some .ret) W4 hp.1
        exact ⟨_, W5, r1, r5, r6, .inr ⟨rfl, .ret, hIxL _ _ _ _ hp.2 r2 r7, r3, r4⟩⟩
      | exit id =>
        obtain ⟨W5, r1, r2, r7, r3, r4, r5, r6⟩ := fin (some (.exit id)) W4 hp.1
        exact ⟨_, W5, r1, r5, r6, .inr ⟨rfl, .exit id, hIxL _ _ _ _ hp.2 r2 r7, r3, r4⟩⟩
      | goto t =>
        obtain ⟨W5, r1, r2, r7, r3, r4, r5, r6⟩ := fin (some (.goto t)) W4 hp.1
        exact ⟨_, W5, r1, r5, r6, .inr ⟨rfl, .goto t, hIxL _ _ _ _ hp.2 r2 r7, r3, r4⟩⟩
      | panic ch => exact hp.elim
      | outgrown => exact hp.elim
    | _ => exact he.elim
  · rintro e W2 ⟨⟨v, rfl⟩, (⟨hi, hl, hk⟩ | ⟨pre, hpre, c, hi, hl, hk⟩)⟩
    · have hr := run_endLoop (P := P) hl (by rw [hrec]; simp)
      rw [show (rec .ready none).pending = none by rw [hrec]] at hr
      exact ⟨none, _, hr, hdone _ (hIL _ _ _ hi (turn _ _ _) ⟨_, hl⟩) (kept (turn _ _ _) hk (by omega))⟩
    · have hr := run_endLoop (P := P) hl (by rw [hrec]; simp)
      rw [show (rec .done (some c)).pending = some c by rw [hrec]] at hr
      exact ⟨some c, _, hr, hstop c pre _ hpre (hIxL c _ _ _ hi (turn _ _ _) ⟨_, hl⟩) (kept (turn _ _ _) hk (by omega))⟩
end Go.Proofs.Ytgfmbddkefjchaa.Rb
