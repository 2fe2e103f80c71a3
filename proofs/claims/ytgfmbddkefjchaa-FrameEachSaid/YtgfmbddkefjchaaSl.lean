/- Plain words about rows of structs of whole numbers: what a row of the call's own holds, cell by cell; 'copy' at elements of k cells; an append of zeros that makes a new row. No condition. -/
import Derived.Test.YtgfmbddkefjchaaWMore
import Derived.Laws.CopyRow
import Derived.Laws.CopyOwn
import Derived.Lib.Overlaps
import Derived.Lib.SliceRun
import Derived.Lib.AppendZerosOnto
import Derived.Laws.NewBlocks
import Derived.Deep.RegionLaw
set_option linter.unusedVariables false
namespace Go.Proofs.Ytgfmbddkefjchaa.Sl
open Go Go.RowKit Go.Proofs.YtgfmbddkefjchaaW.PrintWords Go.Proofs.YtgfmbddkefjchaaW.PrintMore
variable {α : Type} {d : Kd α} {enc : α → List Value}
/-- A kind whose cells are told by the value alone. -/
structure Flat (d : Kd α) (enc : α → List Value) : Prop where
  m : ∀ w base ok x cs, d.M w base ok x cs ↔ cs = enc x
  k : ∀ w x cs, d.K w x cs ↔ cs = enc x
theorem Flat.len (F : Flat d enc) (w : World) (x : α) : (enc x).length = d.sz := d.K_len ((F.k w x _).2 rfl)
theorem Flat.one (F : Flat d enc) (w : World) (x : α) : ∀ u ∈ enc x, u.oneCell' = true := d.K_one ((F.k w x _).2 rfl)
theorem Flat.flen (F : Flat d enc) (w : World) (xs : List α) : (xs.flatMap enc).length = xs.length * d.sz := by
  induction xs with
  | nil => simp
  | cons x xs ih => rw [List.flatMap_cons, List.length_append, ih, F.len w, List.length_cons, Nat.add_mul]; omega
theorem Flat.fone (F : Flat d enc) (w : World) (xs : List α) : ∀ u ∈ xs.flatMap enc, u.oneCell' = true := by
  intro u hu
  obtain ⟨x, _, h⟩ := List.mem_flatMap.1 hu
  exact F.one w x u h
theorem reps_flat {R : α → List Value → Prop} {size : Nat} (hR : ∀ x cs, R x cs → cs = enc x) (hl : ∀ x, (enc x).length = size) : ∀ (xs : List α) (cs : List Value), Reps R size xs cs → cs = xs.flatMap enc
  | [], cs, h => by
    have := h.1
    simp only [List.length_nil, Nat.zero_mul] at this
    rw [List.eq_nil_of_length_eq_zero this]; rfl
  | x :: xs, cs, h => by
    have h1 := h.1
    rw [List.length_cons, Nat.add_mul, Nat.one_mul] at h1
    have h0 := hR _ _ (h.2 0 x rfl)
    rw [Nat.zero_mul, List.drop_zero] at h0
    have ih := reps_flat hR hl xs (cs.drop size) ⟨by rw [List.length_drop]; omega, fun j p hj => by
      have := h.2 (j + 1) p (by simpa using hj)
      rwa [Nat.add_mul, Nat.one_mul, Nat.add_comm, ← List.drop_drop] at this⟩
    rw [List.flatMap_cons, ← h0, ← ih, List.take_append_drop]
theorem flat_reps {R : α → List Value → Prop} {size : Nat} (hR : ∀ x, R x (enc x)) (hl : ∀ x, (enc x).length = size) : ∀ (xs : List α), Reps R size xs (xs.flatMap enc)
  | [] => Reps.none _ _
  | x :: xs => by
    obtain ⟨h1, h2⟩ := flat_reps hR hl xs
    refine ⟨by rw [List.flatMap_cons, List.length_append, h1, hl, List.length_cons, Nat.add_mul]; omega, fun j p hj => ?_⟩
    rw [List.flatMap_cons]
    cases j with
    | zero =>
      obtain rfl : x = p := by simpa using hj
      rw [Nat.zero_mul, List.drop_zero, List.take_left' (hl x)]
      exact hR x
    | succ j =>
      have := h2 j p (by simpa using hj)
      rwa [Nat.add_mul, Nat.one_mul, Nat.add_comm, ← List.drop_drop, List.drop_left' (hl x)]
theorem R_flat (F : Flat d enc) {e base : Nat} {w : World} {ok : Nat → Prop} {v : Value} {xs : List α} : d.R e w base ok v xs ↔ (∀ k, v.ownBlock = some k → ok k) ∧ w.ownsRow base e d.sz v xs.length (xs.flatMap enc) := by
  constructor
  · rintro ⟨h0, inner, ho, hr⟩
    obtain rfl := reps_flat (fun x cs h => (F.m _ _ _ _ _).1 h) (F.len w) xs inner hr
    exact ⟨h0, ho⟩
  · rintro ⟨h0, ho⟩
    exact ⟨h0, _, ho, flat_reps (fun x => (F.m _ _ _ _ _).2 rfl) (F.len w) xs⟩
theorem C_flat (F : Flat d enc) {w : World} {A : Option Addr} {n : Nat} {xs : List α} (h : d.C w A n xs) (ad : Addr) (hA : A = some ad) : ∀ j u, (xs.flatMap enc)[j]? = some u → w.cell? (ad.add j) = some u := by
  subst hA
  obtain ⟨inner, hr, hc⟩ := ReadsRow.inner_ h
  obtain rfl := reps_flat (fun x cs h => (F.k _ _ _).1 h) (F.len w) xs inner hr
  exact hc
theorem flat_take (F : Flat d enc) (w : World) (xs : List α) (i : Nat) : (xs.take i).flatMap enc = (xs.flatMap enc).take (i * d.sz) := by
  have h : (xs.take i).flatMap enc ++ (xs.drop i).flatMap enc = xs.flatMap enc := by rw [← List.flatMap_append, List.take_append_drop]
  rcases Nat.lt_or_ge xs.length i with hi | hi
  · rw [List.take_of_length_le (Nat.le_of_lt hi), List.take_of_length_le]
    rw [F.flen w]; exact Nat.mul_le_mul_right _ (Nat.le_of_lt hi)
  · rw [← h, List.take_left']
    rw [F.flen w, List.length_take, Nat.min_eq_left hi]
theorem flat_drop (F : Flat d enc) (w : World) (xs : List α) (i : Nat) : (xs.drop i).flatMap enc = (xs.flatMap enc).drop (i * d.sz) := by
  have h : (xs.take i).flatMap enc ++ (xs.drop i).flatMap enc = xs.flatMap enc := by rw [← List.flatMap_append, List.take_append_drop]
  rcases Nat.lt_or_ge xs.length i with hi | hi
  · rw [List.drop_eq_nil_of_le (Nat.le_of_lt hi), List.drop_eq_nil_of_le]
    · rfl
    · rw [F.flen w]; exact Nat.mul_le_mul_right _ (Nat.le_of_lt hi)
  · rw [← h, List.drop_left']
    rw [F.flen w, List.length_take, Nat.min_eq_left hi]
/-- A row of one's own, told by its block. -/
theorem R_block (F : Flat d enc) {e base g cap : Nat} {w : World} {ok : Nat → Prop} {cur : Array Value} {xs : List α} (hb : base ≤ g) (hg : w.heap[g]? = some (.cells cur e (0, 0))) (hok : ok g) (hn : xs.length ≤ cap) (hc : cap ≤ 9223372036854775807) (hs : cur.size = cap * d.sz) (ht : cur.toList.take (xs.length * d.sz) = xs.flatMap enc) : d.R e w base ok (.slice (some ⟨g, 0, none⟩) xs.length cap) xs :=
  (R_flat F).2 ⟨fun k hk => by
    obtain rfl : g = k := by simpa [Value.ownBlock] using hk
    exact hok, F.flen w xs, .inr ⟨g, cap, cur, rfl, hb, hg, hn, by unfold maxLen; exact hc, hs, ht⟩⟩
theorem R_open (F : Flat d enc) {e base : Nat} {w : World} {ok : Nat → Prop} {v : Value} {xs : List α} (h : d.R e w base ok v xs) (hn : 0 < xs.length) : ∃ g cap cur, v = .slice (some ⟨g, 0, none⟩) xs.length cap ∧ base ≤ g ∧ w.heap[g]? = some (.cells cur e (0, 0)) ∧ xs.length ≤ cap ∧ cap ≤ 9223372036854775807 ∧ cur.size = cap * d.sz ∧ cur.toList.take (xs.length * d.sz) = xs.flatMap enc := by
  obtain ⟨h0, h1, h2⟩ := (R_flat F).1 h
  rcases h2 with ⟨rfl, hz⟩ | ⟨g, cap, cur, h3, h4, h5, h6, h7, h8, h9⟩
  · omega
  · exact ⟨g, cap, cur, h3, h4, h5, h6, by unfold maxLen at h7; exact h7, h8, h9⟩
/-- One element, told by its block, is read as a row. -/
theorem row_one (F : Flat d enc) {w : World} {g : Nat} {t : TypeId} (x : α) (hg : w.heap[g]? = some (.cells (enc x).toArray t (0, 0))) : ReadsRow (d.K w) d.sz w (some ⟨g, 0, none⟩) 1 [x] :=
  ⟨rfl, by omega, fun _ => ⟨_, rfl, fun j p hj => by
    have hj0 : j = 0 := by have := (List.getElem?_eq_some_iff.1 hj).1; simp at this; omega
    subst hj0
    obtain rfl : x = p := by simpa using hj
    refine ⟨enc x, F.len w x, (F.k _ _ _).2 rfl, fun i u hu => ?_⟩
    rw [add_plain, Nat.zero_mul, Nat.zero_add, blk_cell hg]
    simpa using hu⟩⟩
variable {P : Program}
/-- 'copy' into a row that is known whole, its elements of K cells. -/
theorem run_copyK (w : World) (dT sT ty elem : TypeId) (g o dLen dCap : Nat) (a : Addr) (sLen sCap : Nat) (cur : Array Value) (t : TypeId) (cs : List Value) (K : Nat)
    (hu : P.underlying dT = some (.slice elem)) (hs : (P.info? elem).map (·.size) = some K)
    (hg : w.heap[g]? = some (.cells cur t (0, 0))) (hn : cs.length = Nat.min sLen dLen * K)
    (hsrc : ∀ j v, cs[j]? = some v → w.cell? (a.add j) = some v) (hfit : o + cs.length ≤ cur.size) (h1 : ∀ v ∈ cs, v.oneCell' = true) :
    (Builtin.copy_ #[dT, sT] ty #[.slice (some ⟨g, o, none⟩) dLen dCap, .slice (some a) sLen sCap]).run P w =
      .ok (goInt (Nat.min sLen dLen)) (w.setRow g (cur.toList.take o ++ cs ++ cur.toList.drop (o + cs.length)).toArray) := by
  have hl := run_loadCells_list (P := P) w a cs hsrc
  have hst := run_storeCells_at P g o t cs 0 cur w hg (by simpa using hfit) h1
  cases hq : P.info? elem with
  | none => simp [hq] at hs
  | some i =>
    have hi : i.size = K := by simpa [hq] using hs
    have hl2 : (Builtin.firstCells K (Nat.min sLen dLen) (.slice (some a) sLen sCap)).run P w = .ok cs.toArray w := by
      show (loadCells a (Nat.min sLen dLen * K)).run P w = _
      rw [← hn]; exact hl
    simp [Builtin.copy_, run_underlying hu, Builtin.lenOf, sizeOf, typeInfo, hq, hi, hl2, hst]
theorem grown_setRow (w : World) (g : Nat) (cs : Array Value) : w.grownBy (w.setRow g cs) (some g) :=
  ⟨rfl, rfl, rfl, by simp [World.setRow], fun k _ hk => setRow_other w g k cs (fun e => hk (by rw [e]))⟩
/-- 'copy' as a step of the walk. -/
theorem wpList_copyK {w : World} {ops : Array Oper} {rest : List Oper} {o : Oper} {a : Act} {Q : Exit → Act → World → Prop} (hgd : o.guard = none) (dO sO : Operand) (dT sT : TypeId)
    (ho : o.op = .call { callee := .builtin .copy, args := #[dO, sO], argTypes := #[dT, sT] }) (elem : TypeId) (hu : P.underlying dT = some (.slice elem)) (K : Nat) (hsz : (P.info? elem).map (·.size) = some K)
    (g off dLen dCap : Nat) (ad : Addr) (sLen sCap : Nat) (hd : a.eval dO = .slice (some ⟨g, off, none⟩) dLen dCap) (hs : a.eval sO = .slice (some ad) sLen sCap)
    (cur : Array Value) (t : TypeId) (hg : w.heap[g]? = some (.cells cur t (0, 0))) (cs : List Value) (hn : cs.length = Nat.min sLen dLen * K)
    (hsrc : ∀ j v, cs[j]? = some v → w.cell? (ad.add j) = some v) (hfit : off + cs.length ≤ cur.size) (h1 : ∀ v ∈ cs, v.oneCell' = true)
    (h : ∀ w', Aside0 (w'.heap[g]? = some (.cells (cur.toList.take off ++ cs ++ cur.toList.drop (off + cs.length)).toArray t (0, 0))) → Aside0 (w.grownBy w' (some g)) → wpList P ops Q rest (a.put o.dst (goInt (Nat.min sLen dLen))) w') : wpList P ops Q (o :: rest) a w := by
  refine wpList_plain hgd fun Kc hK => ?_
  have hrun := run_copyK (P := P) w dT sT o.type elem g off dLen dCap ad sLen sCap cur t cs K hu hsz hg hn hsrc hfit h1
  unfold Oper.wp
  simp [execOp, ho, resolve, invoke, builtin, hd, hs, hrun, Result.andThen]
  exact hK _ _ (h _ ⟨by simpa using setRow_heap w g _ _ t _ hg⟩ ⟨by simpa using grown_setRow w g _⟩)
/-- .. and as a step of a region that draws its order. -/
theorem step_copyK {w : World} {ops : Array Oper} {o : Oper} {a : Act} {Kc : Act → World → Prop} {Q : Exit → Act → World → Prop} {E : Prop} (hgd : o.guard = none) (dO sO : Operand) (dT sT : TypeId)
    (ho : o.op = .call { callee := .builtin .copy, args := #[dO, sO], argTypes := #[dT, sT] }) (elem : TypeId) (hu : P.underlying dT = some (.slice elem)) (K : Nat) (hsz : (P.info? elem).map (·.size) = some K)
    (g off dLen dCap : Nat) (ad : Addr) (sLen sCap : Nat) (hd : a.eval dO = .slice (some ⟨g, off, none⟩) dLen dCap) (hs : a.eval sO = .slice (some ad) sLen sCap)
    (cur : Array Value) (t : TypeId) (hg : w.heap[g]? = some (.cells cur t (0, 0))) (cs : List Value) (hn : cs.length = Nat.min sLen dLen * K)
    (hsrc : ∀ j v, cs[j]? = some v → w.cell? (ad.add j) = some v) (hfit : off + cs.length ≤ cur.size) (h1 : ∀ v ∈ cs, v.oneCell' = true)
    (h : ∀ w', Aside0 (w'.heap[g]? = some (.cells (cur.toList.take off ++ cs ++ cur.toList.drop (off + cs.length)).toArray t (0, 0))) → Aside0 (w.grownBy w' (some g)) → Kc (a.put o.dst (goInt (Nat.min sLen dLen))) w') :
    if Region.wanted o (yielded ops a.tmps) = true then Oper.wp P o a w Kc Q else E := by
  have hw : Region.wanted o (yielded ops a.tmps) = true := by simp [Region.wanted, hgd]
  rw [if_pos hw]
  have hrun := run_copyK (P := P) w dT sT o.type elem g off dLen dCap ad sLen sCap cur t cs K hu hsz hg hn hsrc hfit h1
  unfold Oper.wp
  simp [execOp, ho, resolve, invoke, builtin, hd, hs, hrun, Result.andThen]
  exact h _ ⟨by simpa using setRow_heap w g _ _ t _ hg⟩ ⟨by simpa using grown_setRow w g _⟩
/-- An append of zeros to what stands ahead in a row that has no room: a new row. -/
theorem wpList_zerosK {w : World} {ops : Array Oper} {rest : List Oper} {o : Oper} {a : Act} {Q : Exit → Act → World → Prop} (hgd : o.guard = none) (sO xO : Operand) (t tn e : TypeId) (z : Value) (K bytes : Nat)
    (ho : o.op = .call { callee := .builtin .append, args := #[sO, xO], argTypes := #[t, tn] }) (ht : P.underlying t = some (.slice e)) {kn : IntKind} (htn : P.underlying tn = some (.int kn))
    (hinfo : (P.info? e).map (fun i => (i.zero, i.size, i.bytes)) = some (some z, K, bytes)) (hz : z.cells.size = K) (hK0 : 0 < K) (hb0 : 0 < bytes)
    (g i c : Nat) (hs : a.eval sO = .slice (some ⟨g, 0, none⟩) i c) {kx : IntKind} (k : Nat) {q : Int} (hx : a.eval xO = .int kx q) (hq : q = (k : Int)) (cur : Array Value) (t2 : TypeId) (hg : w.heap[g]? = some (.cells cur t2 (0, 0))) (hi : i * K ≤ cur.size)
    (hk : 0 < k) (hroom : c < i + k) (hbig : (i + k) * bytes ≤ 140737488355328) (m : Nat) (hm : i + k = m)
    (h : ∀ (w' : World) (G : Nat) (cur' : Array Value), Aside0 (m ≤ G ∧ G ≤ 9223372036854775807 ∧ cur'.size = G * K ∧ cur'.toList.take (i * K) = cur.toList.take (i * K)) → Aside0 (w'.heap[w.heap.size]? = some (.cells cur' e (0, 0))) → Aside0 (Below w.heap.size w w') → wpList P ops Q rest (a.put o.dst (.slice (some ⟨w.heap.size, 0, none⟩) m G)) w') :
    wpList P ops Q (o :: rest) a w := by
  obtain ⟨i0, hi0, hzz⟩ := Option.map_eq_some_iff.1 hinfo
  simp only [Prod.mk.injEq] at hzz
  obtain ⟨hz0, hz1, hz2⟩ := hzz
  subst hq
  subst hm
  have hlen : i + k ≤ 140737488355328 := Nat.le_trans (Nat.le_mul_of_pos_right _ hb0) hbig
  have hkb : k * bytes ≤ 140737488355328 := Nat.le_trans (Nat.mul_le_mul_right _ (by omega)) hbig
  have hold : (Builtin.firstCells i0.size i (.slice (some ⟨g, 0, none⟩) i c)).run P w.drew = .ok (cur.toList.take (i * K)).toArray w.drew := by
    have hl : (cur.toList.take (i * K)).length = i * K := by rw [List.length_take, Array.length_toList]; omega
    have := run_loadCells_list (P := P) w.drew ⟨g, 0, none⟩ (cur.toList.take (i * K)) (fun j u hu => by
      rw [add_plain, blk_cell (w := w.drew) hg]
      rw [List.getElem?_take] at hu
      split at hu
      · rwa [Array.getElem?_toList] at hu
      · cases hu)
    rw [hl] at this
    rw [hz1]; exact this
  have hrun := Lib.run_append_grow_zeros (P := P) w t tn o.type e i0 z kx kn ht htn hi0 hz0 (some ⟨g, 0, none⟩) i c (cur.toList.take (i * K)) hold k hk (by omega) hroom (by omega) (by rw [hz2]; omega) (by rw [hz2]; exact growslice_fits hroom hbig)
  have hG := grownCap_ge w (i + k) c e
  have hG2 := grownCap_le_maxLen w (i + k) c e (by unfold maxLen; omega)
  unfold maxLen at hG2
  refine wpList_plain hgd fun Kc hKc => ?_
  unfold Oper.wp execOp
  simp only [ho, resolve, invoke, builtin, Sem.run_bind, Sem.run_pure, Result.andThen_ok, List.map_toArray, List.map_cons, List.map_nil, hs, hx, hrun]
  refine hKc _ _ (h _ (grownCap w (i + k) c e) ((cur.toList.take (i * K)).toArray ++ Builtin.zeroCells z.cells k ++ Builtin.zeroCells z.cells (grownCap w (i + k) c e - (i + k))) ⟨hG, hG2, ?_, ?_⟩ ⟨?_⟩ ⟨?_⟩)
  · have h1 : (cur.toList.take (i * K)).length = i * K := by rw [List.length_take, Array.length_toList]; omega
    simp only [Array.size_append, List.size_toArray, h1, Builtin.zeroCells, Array.size_map, Array.size_range, hz]
    rw [← Nat.add_mul, ← Nat.add_mul]
    congr 1
    omega
  · have h1 : (cur.toList.take (i * K)).length = i * K := by rw [List.length_take, Array.length_toList]; omega
    simp only [Array.toList_append, List.append_assoc]
    rw [List.take_left' h1]
  · exact blk_new w.drew _
  · exact below_alloc (W := w.drew) (below_drew (Below.refl _ _)) _
theorem take_splice {β : Type} (L cs : List β) (o m : Nat) (hm : m ≤ o) (ho : o ≤ L.length) : (L.take o ++ cs ++ L.drop (o + cs.length)).take m = L.take m := by
  rw [List.append_assoc, List.take_append_of_le_length (by rw [List.length_take]; omega), List.take_take, Nat.min_eq_left hm]
theorem len_splice {β : Type} (L cs : List β) (o : Nat) (h : o + cs.length ≤ L.length) : (L.take o ++ cs ++ L.drop (o + cs.length)).length = L.length := by
  rw [List.length_append, List.length_append, List.length_take, List.length_drop]; omega
theorem to_splice {β : Type} (L cs : List β) (o : Nat) (h : o + cs.length ≤ L.length) : (L.take o ++ cs ++ L.drop (o + cs.length)).take (o + cs.length) = L.take o ++ cs := by
  rw [List.take_left']
  rw [List.length_append, List.length_take]; omega
theorem flat_ins (F : Flat d enc) (w : World) (l : List α) (i : Nat) (x : α) (hi : i ≤ l.length) : (l.take i ++ x :: l.drop i).length = l.length + 1 := by
  rw [List.length_append, List.length_cons, List.length_take, List.length_drop]; omega
/-- The new element first, then what stood behind it. -/
theorem ins_new (F : Flat d enc) (w : World) (L : List Value) (l : List α) (i : Nat) (x : α) (hi : i ≤ l.length) (h4 : L.take (i * d.sz) = (l.take i).flatMap enc) (hlen : (l.length + 1) * d.sz ≤ L.length) :
    ((((L.take (i * d.sz) ++ enc x ++ L.drop (i * d.sz + (enc x).length)).take ((i + 1) * d.sz) ++ (l.drop i).flatMap enc ++ (L.take (i * d.sz) ++ enc x ++ L.drop (i * d.sz + (enc x).length)).drop ((i + 1) * d.sz + ((l.drop i).flatMap enc).length))).take ((l.length + 1) * d.sz) = (l.take i ++ x :: l.drop i).flatMap enc)
    ∧ (((L.take (i * d.sz) ++ enc x ++ L.drop (i * d.sz + (enc x).length)).take ((i + 1) * d.sz) ++ (l.drop i).flatMap enc ++ (L.take (i * d.sz) ++ enc x ++ L.drop (i * d.sz + (enc x).length)).drop ((i + 1) * d.sz + ((l.drop i).flatMap enc).length))).length = L.length := by
  have e1 : (enc x).length = d.sz := F.len w x
  have e2 : ((l.drop i).flatMap enc).length = (l.length - i) * d.sz := by rw [F.flen w, List.length_drop]
  have e3 : (i + 1) * d.sz = i * d.sz + (enc x).length := by rw [Nat.add_mul, e1]; omega
  have e4 : (i + 1) * d.sz + (l.length - i) * d.sz = (l.length + 1) * d.sz := by rw [← Nat.add_mul]; congr 1; omega
  have hL1 := len_splice L (enc x) (i * d.sz) (by rw [← e3]; exact Nat.le_trans (Nat.mul_le_mul_right _ (by omega)) hlen)
  generalize hM : L.take (i * d.sz) ++ enc x ++ L.drop (i * d.sz + (enc x).length) = M at hL1 ⊢
  have h5 : M.take ((i + 1) * d.sz) = (l.take i).flatMap enc ++ enc x := by
    rw [← hM, e3, to_splice _ _ _ (by rw [← e3]; exact Nat.le_trans (Nat.mul_le_mul_right _ (by omega)) hlen), h4]
  constructor
  · rw [← e4, ← e2, to_splice _ _ _ (by rw [e2, e4, hL1]; exact hlen), h5, List.flatMap_append, List.flatMap_cons, List.append_assoc]
  · rw [len_splice _ _ _ (by rw [e2, e4, hL1]; exact hlen), hL1]
/-- First what stood behind, one place on; then the new element. -/
theorem ins_old (F : Flat d enc) (w : World) (L : List Value) (l : List α) (i : Nat) (x : α) (hi : i ≤ l.length) (h4 : L.take (i * d.sz) = (l.take i).flatMap enc) (hlen : (l.length + 1) * d.sz ≤ L.length) :
    ((((L.take ((i + 1) * d.sz) ++ (l.drop i).flatMap enc ++ L.drop ((i + 1) * d.sz + ((l.drop i).flatMap enc).length)).take (i * d.sz) ++ enc x ++ (L.take ((i + 1) * d.sz) ++ (l.drop i).flatMap enc ++ L.drop ((i + 1) * d.sz + ((l.drop i).flatMap enc).length)).drop (i * d.sz + (enc x).length))).take ((l.length + 1) * d.sz) = (l.take i ++ x :: l.drop i).flatMap enc)
    ∧ (((L.take ((i + 1) * d.sz) ++ (l.drop i).flatMap enc ++ L.drop ((i + 1) * d.sz + ((l.drop i).flatMap enc).length)).take (i * d.sz) ++ enc x ++ (L.take ((i + 1) * d.sz) ++ (l.drop i).flatMap enc ++ L.drop ((i + 1) * d.sz + ((l.drop i).flatMap enc).length)).drop (i * d.sz + (enc x).length))).length = L.length := by
  have e1 : (enc x).length = d.sz := F.len w x
  have e2 : ((l.drop i).flatMap enc).length = (l.length - i) * d.sz := by rw [F.flen w, List.length_drop]
  have e3 : i * d.sz + (enc x).length = (i + 1) * d.sz := by rw [Nat.add_mul, e1]; omega
  have e4 : (i + 1) * d.sz + (l.length - i) * d.sz = (l.length + 1) * d.sz := by rw [← Nat.add_mul]; congr 1; omega
  have e5 : i * d.sz ≤ (i + 1) * d.sz := Nat.mul_le_mul_right _ (by omega)
  have hfit : (i + 1) * d.sz + ((l.drop i).flatMap enc).length ≤ L.length := by rw [e2, e4]; exact hlen
  have hL1 := len_splice L ((l.drop i).flatMap enc) ((i + 1) * d.sz) hfit
  have h5 := take_splice L ((l.drop i).flatMap enc) ((i + 1) * d.sz) (i * d.sz) e5 (by omega)
  have h6 := to_splice L ((l.drop i).flatMap enc) ((i + 1) * d.sz) hfit
  generalize hM : L.take ((i + 1) * d.sz) ++ (l.drop i).flatMap enc ++ L.drop ((i + 1) * d.sz + ((l.drop i).flatMap enc).length) = M at hL1 h5 h6 ⊢
  constructor
  · have h7 : (M.take (i * d.sz) ++ enc x ++ M.drop (i * d.sz + (enc x).length)).take ((l.length + 1) * d.sz) = M.take (i * d.sz) ++ enc x ++ (M.take ((l.length + 1) * d.sz)).drop ((i + 1) * d.sz) := by
      rw [List.take_append, List.take_of_length_le (by rw [List.length_append, List.length_take, e1, Nat.min_eq_left (by omega)]; rw [show i * d.sz + d.sz = (i + 1) * d.sz by rw [Nat.add_mul]; omega]; exact Nat.mul_le_mul_right _ (by omega)), List.length_append, List.length_take, Nat.min_eq_left (by omega), e3, List.drop_take]
    rw [h7, h5, h4]
    have h8 : (M.take ((l.length + 1) * d.sz)).drop ((i + 1) * d.sz) = (l.drop i).flatMap enc := by
      rw [← e4, ← e2, h6, List.drop_left']
      rw [List.length_take]; omega
    rw [h8, List.flatMap_append, List.flatMap_cons, List.append_assoc]
  · rw [len_splice _ _ _ (by rw [e3]; omega), hL1]
/-- One cell of one element is written. -/
theorem set_cell {enc : α → List Value} {K : Nat} (hl : ∀ x, (enc x).length = K) (u : Value) (j : Nat) (hj : j < K) (x' : α) : ∀ (l : List α) (i : Nat) (hi : i < l.length), enc x' = (enc l[i]).set j u → (l.flatMap enc).set (i * K + j) u = (l.set i x').flatMap enc
  | [], i, hi, _ => by simp at hi
  | y :: l, 0, _, hx => by
    rw [List.flatMap_cons, Nat.zero_mul, Nat.zero_add, List.set_append_left _ _ (by rw [hl]; exact hj), List.set_cons_zero, List.flatMap_cons, hx]
    rfl
  | y :: l, i + 1, hi, hx => by
    rw [List.flatMap_cons, List.set_append_right _ _ (by rw [hl, Nat.add_mul]; omega), hl, List.set_cons_succ, List.flatMap_cons]
    congr 1
    rw [show (i + 1) * K + j - K = i * K + j by rw [Nat.add_mul]; omega]
    exact set_cell hl u j hj x' l i (by simpa using hi) (by simpa using hx)
theorem flat_get {enc : α → List Value} {K : Nat} (hl : ∀ x, (enc x).length = K) : ∀ (l : List α) (i j : Nat) (hi : i < l.length), j < K → (l.flatMap enc)[i * K + j]? = (enc (l[i]'hi))[j]?
  | [], i, j, hi, _ => by simp at hi
  | y :: l, 0, j, _, hj => by
    rw [List.flatMap_cons, Nat.zero_mul, Nat.zero_add, List.getElem?_append_left (by rw [hl]; exact hj)]
    rfl
  | y :: l, i + 1, j, hi, hj => by
    rw [List.flatMap_cons, List.getElem?_append_right (by rw [hl, Nat.add_mul]; omega), hl, show (i + 1) * K + j - K = i * K + j by rw [Nat.add_mul]; omega]
    exact flat_get hl l i j (by simpa using hi) hj
theorem block_set {w : World} {g : Nat} {t : TypeId} {cs : Array Value} (h : w.heap[g]? = some (.cells cs t (0, 0))) (p m : Nat) (u : Value) : (w.setCell ⟨g, p, none⟩ u).heap[g]? = some (.cells (cs.setIfInBounds p u) t (0, 0)) ∧ (cs.setIfInBounds p u).size = cs.size ∧ (cs.setIfInBounds p u).toList.take m = (cs.toList.take m).set p u :=
  ⟨blk_set h p u, by simp, by rw [Array.toList_setIfInBounds, List.take_set]⟩
end Go.Proofs.Ytgfmbddkefjchaa.Sl
