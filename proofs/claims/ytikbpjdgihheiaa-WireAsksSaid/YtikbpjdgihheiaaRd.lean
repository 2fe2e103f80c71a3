/- What an argument reads as, kind by kind: out of the row's own reading (DataW.trod) to the words that the walks use (Kd). -/
import Derived.Test.YtikbpjdgihheiaaWWords
import Derived.Deep.Slices
import Derived.ChangeArms
import Derived.ChangeSame
import Derived.OpenShut
import Derived.WideShapes
set_option linter.unusedVariables false
namespace Go.Proofs.Ytikbpjdgihheiaa.Rd
open Go.RowKit Go.Deep Go.Proofs.YtikbpjdgihheiaaW.PrintWords

/-- Values of type t of the program P read as d's, and are such that wf. -/
def Rd {α : Type} (P : Program) (d : Kd α) (t : TypeId) (wf : α → Prop) : Prop :=
  ∀ {H : Type} (enc : TypeId × Value → H) (w : World) (base : Nat) (spare : Nat → Bool) (held : Bool) (fuel : Nat) (cs : List Value) (x : DataW H × List MemPlace),
    DataW.trod enc P w base spare held fuel t cs = some x → ∃ a, d.K w a cs ∧ wf a
theorem int {P : Program} {t : TypeId} {k : IntKind} (ht : P.underlying t = some (.int k)) : Rd P (Kd.int k) t (fun n => (Lit.int k n).wf = true) := by
  intro H enc w base spare held fuel cs x h
  obtain ⟨n, rfl, _, hw⟩ := DataW.trod_int ht h
  exact ⟨n, rfl, hw⟩
theorem bool {P : Program} {t : TypeId} (ht : P.underlying t = some .bool) : Rd P Kd.bool t (fun _ => True) := by
  intro H enc w base spare held fuel cs x h
  obtain ⟨b, rfl, _⟩ := DataW.trod_bool ht h
  exact ⟨b, rfl, trivial⟩
theorem string {P : Program} {t : TypeId} (ht : P.underlying t = some .string) : Rd P Kd.string t (fun s => s.size ≤ 9223372036854775807) := by
  intro H enc w base spare held fuel cs x h
  obtain ⟨s, rfl, _, hw⟩ := DataW.trod_string ht h
  exact ⟨s, rfl, by unfold maxLen at hw; exact hw⟩
/-- A slice, as a value: its elements read as d's. -/
theorem slice_value {α : Type} {P : Program} {d : Kd α} {t e : TypeId} {wf : α → Prop} (ht : P.underlying t = some (.slice e)) (hd : Rd P d e wf) (hsz : P.cellsOf e = d.sz)
    {H : Type} (enc : TypeId × Value → H) (w : World) (base : Nat) (spare : Nat → Bool) (held : Bool) (fuel : Nat) (cs : List Value) (x : DataW H × List MemPlace) (h : DataW.trod enc P w base spare held fuel t cs = some x) :
    ∃ (A : Option Addr) (c : Nat) (xs : List α), cs = [.slice A xs.length c] ∧ xs.length ≤ c ∧ c ≤ maxLen ∧ d.C w A xs.length xs ∧ ∀ y ∈ xs, wf y := by
  rcases open_slice ht h with ⟨rfl, _⟩ | ⟨a, len, cap, m, n, D, Pl, rfl, hb, hl, hm, hmm, _, hx⟩
  · exact ⟨none, 0, [], rfl, Nat.le_refl _, Nat.zero_le _, ⟨rfl, Nat.zero_le _, fun h => absurd h (by simp)⟩, fun y hy => by cases hy⟩
  · have hlm : len ≤ m := by rw [hmm]; split <;> omega
    have each : ∀ i : Fin len, ∃ y : α, (∃ c : List Value, c.length = d.sz ∧ d.K w y c ∧ ∀ j u, c[j]? = some u → w.cell? (a.add (i.val * d.sz + j)) = some u) ∧ wf y := by
      intro i
      obtain ⟨cs', hc, ht'⟩ := hx i.val (by omega)
      obtain ⟨y, hK, hy⟩ := hd enc w base spare held n cs' _ ht'
      rw [hsz] at hc
      obtain ⟨_, hlen, hcell⟩ := World.cells?_some hc
      refine ⟨y, ⟨cs', d.K_len hK, hK, fun j u hu => ?_⟩, hy⟩
      have hj : j < cs'.length := by
        rcases Nat.lt_or_ge j cs'.length with h | h
        · exact h
        · rw [List.getElem?_eq_none h] at hu; cases hu
      have hc := hcell j (by rw [← hlen]; exact hj)
      rw [hu] at hc
      rw [← hc]
      unfold Addr.add
      congr 1
      by_cases h1 : i.val * d.sz = 0 <;> by_cases h2 : j = 0 <;> simp [h1, h2, Nat.add_assoc]
    obtain ⟨f, hf⟩ : ∃ f : Fin len → α, ∀ i, (∃ c : List Value, c.length = d.sz ∧ d.K w (f i) c ∧ ∀ j u, c[j]? = some u → w.cell? (a.add (i.val * d.sz + j)) = some u) ∧ wf (f i) :=
      ⟨fun i => Classical.choose (each i), fun i => Classical.choose_spec (each i)⟩
    have hll : (List.ofFn f).length = len := by simp
    have hm' : len ≤ 9223372036854775807 := by unfold maxLen at hm; omega
    refine ⟨some a, cap, List.ofFn f, by rw [hll], by rw [hll]; exact hl, hm, ⟨rfl, by rw [hll]; exact hm', fun _ => ⟨a, rfl, fun j p hp => ?_⟩⟩, fun y hy => ?_⟩
    · rw [List.getElem?_ofFn] at hp
      split at hp
      · rename_i hj
        injection hp with hp
        subst hp
        exact (hf ⟨j, hj⟩).1
      · cases hp
    · obtain ⟨i, rfl⟩ := List.mem_ofFn.1 hy
      exact (hf i).2
/-- A slice in a struct's field, or an element. -/
theorem slice {α : Type} {P : Program} {d : Kd α} {t e : TypeId} {wf : α → Prop} (ht : P.underlying t = some (.slice e)) (hd : Rd P d e wf) (hsz : P.cellsOf e = d.sz) : Rd P (Kd.slice e d) t (fun xs => xs.length ≤ 9223372036854775807 ∧ ∀ y ∈ xs, wf y) := by
  intro H enc w base spare held fuel cs x h
  obtain ⟨A, c, xs, rfl, hl, hm, hC, hw⟩ := slice_value ht hd hsz enc w base spare held fuel cs x h
  exact ⟨xs, ⟨A, c, rfl, hl, hC⟩, hC.2.1, hw⟩
/-- Fields from the place off on read as d's, one behind the other. -/
def RdF {α : Type} (P : Program) (fs : List Field) (off : Nat) (d : Kd α) (wf : α → Prop) : Prop :=
  ∀ {H : Type} (enc : TypeId × Value → H) (w : World) (base : Nat) (spare : Nat → Bool) (held : Bool) (n : Nat) (cs : List Value), cs.length = d.sz →
    (∀ f ∈ fs, ∃ y, DataW.trod enc P w base spare held n f.type ((cs.drop (f.offset - off)).take (P.cellsOf f.type)) = some y) → ∃ a, d.K w a cs ∧ wf a
theorem last {α : Type} {P : Program} {f : Field} {off : Nat} {d : Kd α} {wf : α → Prop} (hd : Rd P d f.type wf) (ho : f.offset = off) (hs : P.cellsOf f.type = d.sz) : RdF P [f] off d wf := by
  intro H enc w base spare held n cs hl h
  obtain ⟨y, hy⟩ := h f (List.mem_singleton.2 rfl)
  rw [ho, Nat.sub_self, List.drop_zero, hs, List.take_of_length_le (by omega)] at hy
  exact hd enc w base spare held n cs y hy
theorem cons {α β : Type} {P : Program} {f : Field} {fs : List Field} {off m : Nat} {d : Kd α} {d2 : Kd β} {wf : α → Prop} {wf2 : β → Prop} (hd : Rd P d f.type wf) (ho : f.offset = off) (hs : P.cellsOf f.type = d.sz) (hm : m = off + d.sz)
    (hfs : ∀ g ∈ fs, m ≤ g.offset) (h2 : RdF P fs m d2 wf2) : RdF P (f :: fs) off (Kd.pair d d2) (fun x => wf x.1 ∧ wf2 x.2) := by
  intro H enc w base spare held n cs hl h
  have hl' : cs.length = d.sz + d2.sz := hl
  obtain ⟨y, hy⟩ := h f (List.mem_cons_self ..)
  rw [ho, Nat.sub_self, List.drop_zero, hs] at hy
  obtain ⟨a, hK, hw⟩ := hd enc w base spare held n _ y hy
  obtain ⟨b, hK2, hw2⟩ := h2 enc w base spare held n (cs.drop d.sz) (by rw [List.length_drop]; omega) (fun g hg => by
    obtain ⟨z, hz⟩ := h g (List.mem_cons_of_mem _ hg)
    have := hfs g hg
    refine ⟨z, ?_⟩
    rw [List.drop_drop, show d.sz + (g.offset - m) = g.offset - off by omega]
    exact hz)
  exact ⟨(a, b), ⟨_, _, (List.take_append_drop d.sz cs).symm, hK, hK2⟩, hw, hw2⟩
theorem struct {α β : Type} {P : Program} {t : TypeId} {fs : Array Field} {d : Kd α} {wf : α → Prop} (ht : P.underlying t = some (.struct fs)) (proj : β → α) (mk : α → β) (hmk : ∀ a, proj (mk a) = a) (hsz : P.cellsOf t = d.sz) (h : RdF P fs.toList 0 d wf) :
    Rd P (Kd.iso d proj) t (fun x => wf (proj x)) := by
  intro H enc w base spare held fuel cs x hx
  obtain ⟨xs, n, _, _, hl, hlen, hf⟩ := DataW.trod_struct ht hx
  obtain ⟨a, hK, hw⟩ := h enc w base spare held n cs (by omega) (fun f hf' => by
    obtain ⟨i, hi, rfl⟩ := List.getElem_of_mem hf'
    have := hf i _ (by rw [Array.getElem?_eq_getElem (by simpa using hi)])
    simp only [Array.getElem_toList, Nat.sub_zero]
    rw [this]
    exact ⟨_, List.getElem?_eq_getElem (by rw [hlen]; simpa using hi)⟩)
  exact ⟨mk a, show d.K w (proj (mk a)) cs by rw [hmk]; exact hK, show wf (proj (mk a)) by rw [hmk]; exact hw⟩
/-- Elements from the off-th on, up to the n-th, read as d's, one behind the other. -/
def RdA {α : Type} (P : Program) (e : TypeId) (off n : Nat) (d : Kd α) (wf : α → Prop) : Prop :=
  ∀ {H : Type} (enc : TypeId × Value → H) (w : World) (base : Nat) (spare : Nat → Bool) (held : Bool) (m : Nat) (cs : List Value), cs.length = d.sz →
    (∀ i, off ≤ i → i < n → ∃ y, DataW.trod enc P w base spare held m e ((cs.drop ((i - off) * P.cellsOf e)).take (P.cellsOf e)) = some y) → ∃ a, d.K w a cs ∧ wf a
theorem alast {α : Type} {P : Program} {e : TypeId} {off n : Nat} {d : Kd α} {wf : α → Prop} (hd : Rd P d e wf) (hs : P.cellsOf e = d.sz) (hn : n = off + 1) : RdA P e off n d wf := by
  intro H enc w base spare held m cs hl h
  obtain ⟨y, hy⟩ := h off (Nat.le_refl _) (by omega)
  rw [Nat.sub_self, Nat.zero_mul, List.drop_zero, hs, List.take_of_length_le (by omega)] at hy
  exact hd enc w base spare held m cs y hy
theorem acons {α β : Type} {P : Program} {e : TypeId} {off n : Nat} {d : Kd α} {d2 : Kd β} {wf : α → Prop} {wf2 : β → Prop} (hd : Rd P d e wf) (hs : P.cellsOf e = d.sz) (hn : off < n) (h2 : RdA P e (off + 1) n d2 wf2) :
    RdA P e off n (Kd.pair d d2) (fun x => wf x.1 ∧ wf2 x.2) := by
  intro H enc w base spare held m cs hl h
  have hl' : cs.length = d.sz + d2.sz := hl
  obtain ⟨y, hy⟩ := h off (Nat.le_refl _) hn
  rw [Nat.sub_self, Nat.zero_mul, List.drop_zero, hs] at hy
  obtain ⟨a, hK, hw⟩ := hd enc w base spare held m _ y hy
  obtain ⟨b, hK2, hw2⟩ := h2 enc w base spare held m (cs.drop d.sz) (by rw [List.length_drop]; omega) (fun i hi hin => by
    obtain ⟨z, hz⟩ := h i (by omega) hin
    refine ⟨z, ?_⟩
    rw [List.drop_drop, ← hs, show P.cellsOf e + (i - (off + 1)) * P.cellsOf e = (i - off) * P.cellsOf e by rw [show i - off = (i - (off + 1)) + 1 by omega, Nat.succ_mul]; omega]
    exact hz)
  exact ⟨(a, b), ⟨_, _, (List.take_append_drop d.sz cs).symm, hK, hK2⟩, hw, hw2⟩
theorem array {α β : Type} {P : Program} {t e : TypeId} {n : Nat} {d : Kd α} {wf : α → Prop} (ht : P.underlying t = some (.array n e)) (proj : β → α) (mk : α → β) (hmk : ∀ a, proj (mk a) = a) (hsz : P.cellsOf t = d.sz) (h : RdA P e 0 n d wf) :
    Rd P (Kd.iso d proj) t (fun x => wf (proj x)) := by
  intro H enc w base spare held fuel cs x hx
  obtain ⟨xs, m, _, _, hl, hlen, hf⟩ := DataW.trod_array ht hx
  obtain ⟨a, hK, hw⟩ := h enc w base spare held m cs (by omega) (fun i _ hi => by
    have := hf i hi
    simp only [Nat.sub_zero]
    rw [this]
    exact ⟨_, List.getElem?_eq_getElem (by rw [hlen]; exact hi)⟩)
  exact ⟨mk a, show d.K w (proj (mk a)) cs by rw [hmk]; exact hK, show wf (proj (mk a)) by rw [hmk]; exact hw⟩
/-- A struct, as a value. -/
theorem struct_value {α : Type} {P : Program} {d : Kd α} {t : TypeId} {fs : Array Field} {wf : α → Prop} (ht : P.underlying t = some (.struct fs)) (hd : Rd P d t wf)
    {H : Type} {enc : TypeId × Value → H} {w : World} {base b0 : Nat} {spare : Nat → Bool} {held : Bool} {r : Reach} {v : Value} {x : DataW H} {p : List MemPlace} (hv : Value.okWide P w r b0 t v) (h : DataW.Trod enc P w base spare held t v x p) :
    ∃ (cs : List Value) (a : α), v = .agg cs.toArray ∧ d.K w a cs ∧ wf a := by
  obtain ⟨cs, rfl, hsz⟩ := Go.WideShapes.okWide_struct ht hv
  obtain ⟨fuel, hf⟩ := h
  obtain ⟨a, hK, hw⟩ := hd enc w base spare held fuel _ _ hf
  exact ⟨cs.toList, a, by simp, hK, hw⟩
end Go.Proofs.Ytikbpjdgihheiaa.Rd
