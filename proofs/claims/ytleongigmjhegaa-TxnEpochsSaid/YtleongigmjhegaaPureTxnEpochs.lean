/- For any notes (their first 100): a producer's epoch rises by one with every start and every close, stands still else, and no other producer's row changes. No condition. -/
import Derived.Test.YtleongigmjhegaaPx2
import Derived.Test.YtleongigmjhegaaPx3
import Derived.Test.YtleongigmjhegaaPx4
import Derived.Test.YtleongigmjhegaaPx5
import Derived.Test.YtleongigmjhegaaPx6
set_option linter.unusedVariables false
set_option linter.unusedSimpArgs false
namespace Go.Proofs.Ytleongigmjhegaa.Tn
open Go.RowKit Go.Proofs.Ytleongigmjhegaa.P Go.Proofs.YtleongigmjhegaaW.PrintWords Go.Proofs.YtleongigmjhegaaW.PrintLast Go.Proofs.YtleongigmjhegaaW.PrintMore
theorem w64 {x : Int} (h0 : -9223372036854775808 ≤ x) (h1 : x ≤ 9223372036854775807) : wrap64 x = x := by unfold wrap64; omega
theorem rd24_at (s : List S24) (j : Nat) (h : j < s.length) : rd_T24 s (j : Int) = s[j] := by
  simp [rd_T24, List.getD_eq_getElem?_getD, List.getElem?_eq_getElem h]
theorem behind_step (x0 : List S24) (rows : List S27) (j : Nat) (h : j < x0.length) (h2 : j < 100) (k : Nat) (r : List S27 × Int) (hr : txn_Fold.f rows x0[j].f0 x0[j].f1 x0[j].f2 = some r) :
    headgatelaw12_behind.l0 (k + 2) x0 rows (j : Int) = headgatelaw12_behind.l0 k x0 (if r.2 = 0 then r.1 else rows) ((j + 1 : Nat) : Int) := by
  have e1 : wrap64 ((j : Int) + 1) = ((j + 1 : Nat) : Int) := by rw [w64 (by omega) (by omega)]; omega
  rw [headgatelaw12_behind.l0, if_pos (by omega), decide_eq_true (by omega), headgatelaw12_behind.j1, if_pos rfl, if_pos (by omega), if_pos (by omega), rd24_at x0 j h, hr, Option.bind_some, e1]
  split <;> rfl
theorem behind_end (x0 : List S24) (rows : List S27) (j : Nat) (h : x0.length ≤ j ∨ 100 ≤ j) (k : Nat) : headgatelaw12_behind.l0 (k + 2) x0 rows (j : Int) = some rows := by
  rw [headgatelaw12_behind.l0]
  split
  · rw [decide_eq_false (by omega), headgatelaw12_behind.j1, if_neg (by decide)]
  · rw [headgatelaw12_behind.j1, if_neg (by decide)]
theorem awake_20 : headgatelaw12_awake.f 20 = some true := by
  have e1 : txn_Fold.f [] 1 1 0 = some ([⟨1, 1, 1, 0, 0⟩], 0) := by rfl
  have e2 : txn_Fold.f [⟨1, 1, 1, 0, 0⟩] 2 1 5 = some ([⟨1, 1, 2, 5, 0⟩], 0) := by rfl
  have e3 : txn_Fold.f [⟨1, 1, 2, 5, 0⟩] 3 1 0 = some ([⟨1, 1, 3, 5, 0⟩], 0) := by rfl
  have e4 : txn_Fold.f [⟨1, 1, 3, 5, 0⟩] 5 1 0 = some ([⟨1, 2, 1, 0, 3⟩], 0) := by rfl
  unfold headgatelaw12_awake.f headgatelaw12_behind.f
  rw [show (0 : Int) = ((0 : Nat) : Int) from rfl, behind_step _ _ 0 (by decide) (by omega) 18 _ e1, if_pos rfl, behind_step _ _ 1 (by decide) (by omega) 16 _ e2, if_pos rfl, behind_step _ _ 2 (by decide) (by omega) 14 _ e3, if_pos rfl, behind_step _ _ 3 (by decide) (by omega) 12 _ e4, if_pos rfl, behind_end _ _ 4 (.inl (by decide)) 10, Option.bind_some]
  rfl
theorem awake_eq (k : Nat) (hk : 20 ≤ k) : headgatelaw12_awake.f k = some true :=
  at_rounds (g := headgatelaw12_awake.f) headgatelaw12_awake.mono hk awake_20
/-- What a row is known to be. -/
def okR (x : S27) : Prop := (1 ≤ x.f2 ∧ x.f2 ≤ 4) ∧ (0 ≤ x.f3 ∧ x.f3 < 8192) ∧ (x.f2 = 1 ↔ x.f3 = 0)
def Inv (l : List S27) : Prop := (∀ x ∈ l, 1 ≤ x.f0 ∧ x.f0 ≤ 8 ∧ 1 ≤ x.f1 ∧ x.f1 ≤ 1099511627776) ∧ (l.Pairwise fun a b => a.f0 < b.f0) ∧ ∀ x ∈ l, okR x
theorem B_iff {l : List S27} : txn_right.B l = true ↔ (∀ x ∈ l, 1 ≤ x.f0 ∧ x.f0 ≤ 8 ∧ 1 ≤ x.f1 ∧ x.f1 ≤ 1099511627776) ∧ l.Pairwise fun a b => a.f0 < b.f0 := by
  unfold txn_right.B
  simp only [Bool.and_eq_true, decide_eq_true_eq, List.all_eq_true]
theorem len8 {l : List S27} (h1 : ∀ x ∈ l, 1 ≤ x.f0 ∧ x.f0 ≤ 8) (h2 : l.Pairwise fun a b => a.f0 < b.f0) : l.length ≤ 8 := by
  have key : ∀ j, (hj : j < l.length) → (j : Int) + 1 ≤ l[j].f0 := by
    intro j
    induction j with
    | zero => intro hj; have := (h1 _ (List.getElem_mem hj)).1; omega
    | succ j ih =>
      intro hj
      have a := ih (by omega)
      have b := List.pairwise_iff_getElem.1 h2 j (j + 1) (by omega) hj (by omega)
      omega
  rcases Nat.lt_or_ge 8 l.length with h | h
  · have a := key 8 h
    have b := (h1 _ (List.getElem_mem h)).2
    omega
  · exact h
theorem rd27_at (s : List S27) (j : Nat) (h : j < s.length) : rd_T27 s (j : Int) = s[j] := by
  simp [rd_T27, List.getD_eq_getElem?_getD, List.getElem?_eq_getElem h]
/-- The row of a producer. -/
def look (l : List S27) (q : Int) : Option S27 := l.find? fun x => x.f0 == q
theorem look_some {l : List S27} {q : Int} {x : S27} (h : look l q = some x) : x ∈ l ∧ x.f0 = q := ⟨List.mem_of_find?_eq_some h, by simpa using List.find?_some h⟩
theorem look_set : ∀ (l : List S27) (i : Nat) (p : Int) (y : S27) (hi : i < l.length), l[i].f0 = p → y.f0 = p → (l.Pairwise fun a b => a.f0 < b.f0) → ∀ q, look (l.set i y) q = if q = p then some y else look l q
  | [], i, p, y, hi, _, _, _, q => by simp at hi
  | x :: l, 0, p, y, hi, h1, h2, h3, q => by
    simp only [List.getElem_cons_zero] at h1
    rw [List.set_cons_zero, look, look, List.find?_cons, List.find?_cons, h1, h2]
    by_cases e : q = p
    · subst e; simp
    · have : (p == q) = false := by rw [beq_eq_false_iff_ne]; exact fun h => e h.symm
      rw [this, if_neg e]
  | x :: l, i + 1, p, y, hi, h1, h2, h3, q => by
    have h3' := List.pairwise_cons.1 h3
    have hil : i < l.length := by simpa using hi
    simp only [List.getElem_cons_succ] at h1
    have hx : x.f0 < p := by rw [← h1]; exact h3'.1 _ (List.getElem_mem hil)
    have ih := look_set l i p y hil h1 h2 h3'.2 q
    unfold look at ih ⊢
    rw [List.set_cons_succ, List.find?_cons, List.find?_cons]
    by_cases e : x.f0 = q
    · rw [beq_iff_eq.2 e, if_neg (by omega)]
    · rw [beq_eq_false_iff_ne.2 e]
      exact ih
theorem look_ins : ∀ (l : List S27) (i : Nat) (p : Int) (y : S27), i ≤ l.length → y.f0 = p → (∀ x ∈ l, x.f0 ≠ p) → ∀ q, look (l.take i ++ y :: l.drop i) q = if q = p then some y else look l q
  | l, 0, p, y, hi, h1, h2, q => by
    rw [List.take_zero, List.drop_zero, List.nil_append, look, List.find?_cons, h1]
    by_cases e : q = p
    · subst e; simp
    · have : (p == q) = false := by rw [beq_eq_false_iff_ne]; exact fun h => e h.symm
      rw [this, if_neg e]; rfl
  | [], i + 1, p, y, hi, _, _, q => by simp at hi
  | x :: l, i + 1, p, y, hi, h1, h2, q => by
    have hx : x.f0 ≠ p := h2 x List.mem_cons_self
    have ih := look_ins l i p y (by simpa using hi) h1 (fun z hz => h2 z (List.mem_cons_of_mem _ hz)) q
    unfold look at ih ⊢
    rw [List.take_succ_cons, List.drop_succ_cons, List.cons_append, List.find?_cons, List.find?_cons]
    by_cases e : x.f0 = q
    · rw [beq_iff_eq.2 e, if_neg (fun h => hx (e.trans h))]
    · rw [beq_eq_false_iff_ne.2 e]
      exact ih
theorem lt0_lo : ∀ (l : List S27) (t : Int) (q : Nat), q < lt027 l t → (rd_T27 l (q : Int)).f0 < t
  | [], t, q, h => by simp [lt027] at h
  | x :: l, t, q, h => by
    unfold lt027 at h
    rw [List.takeWhile_cons] at h
    by_cases c : x.f0 < t
    · rw [if_pos (by simpa using c)] at h
      cases q with
      | zero => simpa [rd_T27] using c
      | succ q =>
        have := lt0_lo l t q (by simpa [lt027] using h)
        simpa [rd_T27] using this
    · rw [if_neg (by simpa using c)] at h
      simp at h
theorem lt0_hi : ∀ (l : List S27) (t : Int), lt027 l t < l.length → t ≤ (rd_T27 l (lt027 l t : Int)).f0
  | [], t, h => by simp at h
  | x :: l, t, h => by
    unfold lt027 at h ⊢
    rw [List.takeWhile_cons] at h ⊢
    by_cases c : x.f0 < t
    · rw [if_pos (by simpa using c)] at h ⊢
      have := lt0_hi l t (by simpa [lt027] using h)
      simpa [rd_T27, lt027] using this
    · rw [if_neg (by simpa using c)]
      simp [rd_T27]
      omega
/-- Nobody's row, where it is not found. -/
theorem no_row {l : List S27} (h2 : l.Pairwise fun a b => a.f0 < b.f0) {p : Int} (hf : ¬ (lt027 l p < l.length ∧ (rd_T27 l (lt027 l p : Int)).f0 = p)) : ∀ x ∈ l, x.f0 ≠ p := by
  intro x hx e
  obtain ⟨j, hj, rfl⟩ := List.getElem_of_mem hx
  have hle := lt0_le27 l p
  rcases Nat.lt_trichotomy j (lt027 l p) with h | h | h
  · have := lt0_lo l p j h
    rw [rd27_at l j hj] at this
    omega
  · exact hf ⟨by omega, by rw [← h, rd27_at l j hj]; exact e⟩
  · have a := lt0_hi l p (by omega)
    rw [rd27_at l _ (by omega)] at a
    have b := List.pairwise_iff_getElem.1 h2 (lt027 l p) j (by omega) hj h
    omega
theorem ins_sorted {l : List S27} (h2 : l.Pairwise fun a b => a.f0 < b.f0) {p : Int} {y : S27} (hy : y.f0 = p) (hn : ∀ x ∈ l, x.f0 ≠ p) : (l.take (lt027 l p) ++ y :: l.drop (lt027 l p)).Pairwise fun a b => a.f0 < b.f0 := by
  have hle := lt0_le27 l p
  have hlo : ∀ x ∈ l.take (lt027 l p), x.f0 < p := by
    intro x hx
    obtain ⟨j, hj, rfl⟩ := List.getElem_of_mem hx
    rw [List.length_take] at hj
    have := lt0_lo l p j (by omega)
    rw [rd27_at l j (by omega)] at this
    rw [List.getElem_take]; exact this
  have hhi : ∀ x ∈ l.drop (lt027 l p), p < x.f0 := by
    intro x hx
    obtain ⟨j, hj, rfl⟩ := List.getElem_of_mem hx
    rw [List.length_drop] at hj
    rw [List.getElem_drop]
    have a := lt0_hi l p (by omega)
    rw [rd27_at l _ (by omega)] at a
    have ne := hn _ (List.getElem_mem (show lt027 l p < l.length by omega))
    by_cases h0 : j = 0
    · subst h0; simp only [Nat.add_zero]; omega
    · have b := List.pairwise_iff_getElem.1 h2 (lt027 l p) (lt027 l p + j) (by omega) (by omega) (by omega)
      omega
  refine List.pairwise_append.2 ⟨h2.sublist (List.take_sublist _ _), List.pairwise_cons.2 ⟨fun x hx => by have := hhi x hx; omega, h2.sublist (List.drop_sublist _ _)⟩, fun a ha b hb => ?_⟩
  have ha' := hlo a ha
  rcases List.mem_cons.1 hb with rfl | hb
  · omega
  · have := hhi b hb; omega
theorem or_nat (a b : Nat) (ha : a < 8192) (hb : b < 8192) : Go.bits .or .i64 (a : Int) (b : Int) = ((a ||| b : Nat) : Int) ∧ a ||| b < 8192 ∧ b ≤ a ||| b := by
  have h1 : a ||| b < 2 ^ 13 := Nat.or_lt_two_pow (by omega) (by omega)
  refine ⟨?_, by omega, Nat.right_le_or⟩
  unfold Go.bits
  have e : ∀ n : Nat, n < 8192 → (BitVec.ofInt IntKind.i64.bits (n : Int)).toNat = n := fun n hn => by
    rw [BitVec.toNat_ofInt]
    show (((n : Int)) % 18446744073709551616).toNat = n
    omega
  have h3 : ((BitVec.ofInt IntKind.i64.bits (a : Int)) ||| (BitVec.ofInt IntKind.i64.bits (b : Int))).toNat = a ||| b := by
    rw [BitVec.toNat_or, e a ha, e b hb]
  show IntKind.i64.wrap ((((BitVec.ofInt IntKind.i64.bits (a : Int)) ||| (BitVec.ofInt IntKind.i64.bits (b : Int))).toNat : Nat) : Int) = _
  rw [h3, IntKind.wrap_i64]
  omega
/-- What one note comes to. -/
theorem fold_is {l : List S27} (hI : Inv l) (kind pid parts : Int) : ∃ r, txn_Fold.f l kind pid parts = some r ∧ (r.2 ≠ 0 → r.1 = []) ∧ (r.2 = 0 → Inv r.1 ∧ 1 ≤ kind ∧ kind ≤ 5 ∧
    ((look l pid = none ∧ kind = 1 ∧ ∀ q, look r.1 q = if q = pid then some ⟨pid, 1, 1, 0, 0⟩ else look l q) ∨
      ∃ x y, look l pid = some x ∧ txn_Fold.turn x kind parts = some y ∧ y.f1 ≤ 1099511627776 ∧ ∀ q, look r.1 q = if q = pid then some y else look l q)) := by
  obtain ⟨i1, i2, i3⟩ := hI
  unfold txn_Fold.f txn_Check.f txn_right.f
  rw [Option.bind_some]
  by_cases hc : (1 ≤ pid ∧ pid ≤ 8) ∧ 1 ≤ kind ∧ kind ≤ 5 ∧ (kind = 2 → 1 ≤ parts ∧ parts < 8192) ∧ (kind ≠ 2 → parts = 0)
  case neg => rw [if_neg hc, if_neg (by decide)]; exact ⟨_, rfl, fun _ => rfl, fun h => by cases h⟩
  rw [if_pos hc, if_pos rfl, Option.bind_some, if_pos (B_iff.2 ⟨i1, i2⟩)]
  have h8 := len8 (fun x hx => ⟨(i1 x hx).1, (i1 x hx).2.1⟩) i2
  rw [if_pos (by
    simp only [txn_Fold.okB, Bool.and_eq_true, decide_eq_true_eq, List.all_eq_true]
    exact ⟨⟨⟨i1, i2⟩, h8⟩, hc.2.1, hc.2.2.1, hc.1.1, hc.1.2⟩)]
  by_cases hf : lt027 l pid < l.length ∧ (rd_T27 l (lt027 l pid : Int)).f0 = pid
  · rw [if_pos hf]
    have hl : lt027 l pid < l.length := hf.1
    have e0 := hf.2
    rw [rd27_at l _ hl] at e0 ⊢
    have hlook : look l pid = some l[lt027 l pid] := by
      have := look_set l (lt027 l pid) pid l[lt027 l pid] hl e0 e0 i2 pid
      rwa [List.set_getElem_self, if_pos rfl] at this
    have hx := i1 _ (List.getElem_mem hl)
    have ho := i3 _ (List.getElem_mem hl)
    generalize hxe : l[lt027 l pid] = x at *
    cases ht : txn_Fold.turn x kind parts with
    | none => exact ⟨_, rfl, fun _ => rfl, fun h => by cases h⟩
    | some y =>
      dsimp only
      by_cases hm : y.f1 > 1099511627776
      · rw [if_pos hm]; exact ⟨_, rfl, fun _ => rfl, fun h => by cases h⟩
      · rw [if_neg hm]
        have hy : y.f0 = x.f0 ∧ x.f1 ≤ y.f1 ∧ okR y := by
          obtain ⟨o1, o2, o3⟩ := ho
          unfold txn_Fold.turn at ht
          split at ht
          · split at ht
            · injection ht with ht; subst ht; rename_i h; exact ⟨rfl, by dsimp only; omega, ⟨by dsimp only; omega, by dsimp only; omega, by dsimp only; simp [h]⟩⟩
            · cases ht
          · split at ht
            · split at ht
              · injection ht with ht
                subst ht
                rename_i hk2 _
                have hp := hc.2.2.2.1 hk2
                obtain ⟨a, ha⟩ : ∃ a : Nat, x.f3 = a := ⟨x.f3.toNat, by omega⟩
                obtain ⟨b, hb⟩ : ∃ b : Nat, parts = b := ⟨parts.toNat, by omega⟩
                obtain ⟨n1, n2, n3⟩ := or_nat a b (by omega) (by omega)
                exact ⟨rfl, Int.le_refl _, ⟨by dsimp only; omega, by dsimp only; rw [ha, hb, n1]; omega, by dsimp only; rw [ha, hb, n1]; omega⟩⟩
              · cases ht
            · split at ht
              · split at ht
                · injection ht with ht; subst ht; exact ⟨rfl, by dsimp only; omega, ⟨by dsimp only; omega, by dsimp only; omega, by dsimp only; simp⟩⟩
                · cases ht
              · split at ht
                · injection ht with ht; subst ht; exact ⟨rfl, Int.le_refl _, ⟨by dsimp only; omega, o2, by dsimp only; omega⟩⟩
                · cases ht
        refine ⟨_, rfl, fun h => (h rfl).elim, fun _ => ⟨⟨fun z hz => ?_, ?_, fun z hz => ?_⟩, hc.2.1, hc.2.2.1, .inr ⟨x, y, hlook, ht, by omega, look_set l _ pid y hl (by rw [hxe]; exact e0) (hy.1.trans e0) i2⟩⟩⟩
        · rcases List.mem_or_eq_of_mem_set hz with h | h
          · exact i1 z h
          · subst h; rw [hy.1]; exact ⟨hx.1, hx.2.1, by omega, by omega⟩
        · rw [List.pairwise_iff_getElem]
          intro a b ha hb hab
          rw [List.length_set] at ha hb
          have h := List.pairwise_iff_getElem.1 i2 a b ha hb hab
          rw [List.getElem_set, List.getElem_set]
          have e1 : ∀ c, (hc : c < l.length) → c = lt027 l pid → l[c].f0 = y.f0 := fun c hc e => by subst e; rw [hxe]; exact hy.1.symm
          split
          · split
            · omega
            · rw [← e1 a ha (by omega)]; exact h
          · split
            · rw [← e1 b hb (by omega)]; exact h
            · exact h
        · rcases List.mem_or_eq_of_mem_set hz with h | h
          · exact i3 z h
          · subst h; exact hy.2.2
  · rw [if_neg hf]
    have hn := no_row i2 hf
    by_cases hk : kind = 1
    · rw [if_pos hk]
      have hlook : look l pid = none := by
        rw [look, List.find?_eq_none]
        intro x hx
        simpa using hn x hx
      have hmem : ∀ z ∈ (l.take (lt027 l pid) ++ (⟨pid, 1, 1, 0, 0⟩ : S27) :: l.drop (lt027 l pid)), z = ⟨pid, 1, 1, 0, 0⟩ ∨ z ∈ l := by
        intro z hz
        rcases List.mem_append.1 hz with h | h
        · exact .inr (List.mem_of_mem_take h)
        · rcases List.mem_cons.1 h with h | h
          · exact .inl h
          · exact .inr (List.mem_of_mem_drop h)
      refine ⟨_, rfl, fun h => (h rfl).elim, fun _ => ⟨⟨fun z hz => ?_, ins_sorted i2 rfl hn, fun z hz => ?_⟩, hc.2.1, hc.2.2.1, .inl ⟨hlook, hk, look_ins l _ pid _ (lt0_le27 l pid) rfl hn⟩⟩⟩
      · rcases hmem z hz with rfl | h
        · exact ⟨hc.1.1, hc.1.2, by dsimp only; omega, by dsimp only; omega⟩
        · exact i1 z h
      · rcases hmem z hz with rfl | h
        · exact ⟨by dsimp only; omega, by dsimp only; omega, by dsimp only; simp⟩
        · exact i3 z h
    · rw [if_neg hk]; exact ⟨_, rfl, fun _ => rfl, fun h => by cases h⟩
theorem inv_nil : Inv [] := ⟨fun x hx => by simp at hx, List.Pairwise.nil, fun x hx => by simp at hx⟩
end Go.Proofs.Ytleongigmjhegaa.Tn
set_option linter.unusedVariables false
namespace Go.Proofs.Ytleongigmjhegaa.Pure
open Go.RowKit Go.Proofs.Ytleongigmjhegaa.Tn Go.Proofs.Ytleongigmjhegaa.P Go.Proofs.YtleongigmjhegaaW.PrintWords Go.Proofs.YtleongigmjhegaaW.PrintLast Go.Proofs.YtleongigmjhegaaW.PrintMore
theorem rrow_l0 (l : List S27) (q : Int) (hl : l.length ≤ 8) (d : Nat) : ∀ (j k : Nat), l.length - j = d → j ≤ l.length → d < k → headgateref12_Row.l0 k l q (j : Int) = some (match (l.drop j).find? (fun x => x.f0 == q) with | some x => (x.f0, x.f1, x.f2, x.f3, x.f4, 0) | none => (0, 0, 0, 0, 0, 3)) := by
  induction d with
  | zero =>
    intro j k hd hj hk
    obtain ⟨k, rfl⟩ : ∃ m, k = m + 1 := ⟨k - 1, by omega⟩
    rw [headgateref12_Row.l0, if_neg (by omega), List.drop_eq_nil_of_le (by omega)]
    rfl
  | succ d ih =>
    intro j k hd hj hk
    obtain ⟨k, rfl⟩ : ∃ m, k = m + 1 := ⟨k - 1, by omega⟩
    have hlt : j < l.length := by omega
    have e1 : wrap64 ((j : Int) + 1) = ((j + 1 : Nat) : Int) := by rw [w64 (by omega) (by omega)]; omega
    rw [headgateref12_Row.l0, if_pos (by omega), if_pos (by omega), rd27_at l j hlt, e1, ih (j + 1) k (by omega) (by omega) (by omega), List.drop_eq_getElem_cons hlt, List.find?_cons]
    by_cases c : l[j].f0 = q
    · rw [if_pos c, beq_iff_eq.2 c]
    · rw [if_neg c, beq_eq_false_iff_ne.2 c]
theorem rrow_eq {l : List S27} (hI : Inv l) (q : Int) (k : Nat) (hk : 20 ≤ k) : headgateref12_Row.f k l q = some (match Tn.look l q with | some x => (x.f0, x.f1, x.f2, x.f3, x.f4, 0) | none => (0, 0, 0, 0, 0, 3)) := by
  have h8 := len8 (fun x hx => ⟨(hI.1 x hx).1, (hI.1 x hx).2.1⟩) hI.2.1
  have := rrow_l0 l q h8 l.length 0 k (by omega) (by omega) (by omega)
  rw [List.drop_zero] at this
  exact this
/-- No row's epoch is more than n. -/
def ep : Option S27 → Int
  | some x => x.f1
  | none => 0
def rowv : Option S27 → Int × Int × Int × Int × Int × Int
  | some x => (x.f0, x.f1, x.f2, x.f3, x.f4, 0)
  | none => (0, 0, 0, 0, 0, 3)
theorem rowv_ep (o : Option S27) : (rowv o).2.1 = ep o := by cases o <;> rfl
theorem rrow2 {l : List S27} (hI : Inv l) (q : Int) (k : Nat) (hk : 20 ≤ k) : headgateref12_Row.f k l q = some (rowv (Tn.look l q)) := by
  rw [rrow_eq hI q k hk]
  cases Tn.look l q <;> rfl
structure Chg (rows m : List S27) (kind pid : Int) : Prop where
  i1 : Inv rows
  i2 : Inv m
  far : ∀ q, q ≠ pid → Tn.look m q = Tn.look rows q
  up : kind = 1 ∨ kind = 5 → ep (Tn.look m pid) = ep (Tn.look rows pid) + 1
  eq : kind ≠ 1 → kind ≠ 5 → ep (Tn.look m pid) = ep (Tn.look rows pid)
  lo : 0 ≤ ep (Tn.look rows pid)
  hi : ep (Tn.look rows pid) ≤ 1099511627776
theorem chg {rows : List S27} (hI : Inv rows) (kind pid parts : Int) : ∃ r, txn_Fold.f rows kind pid parts = some r ∧ (r.2 ≠ 0 → r.1 = []) ∧ (r.2 = 0 → Chg rows r.1 kind pid) := by
  obtain ⟨r, hr, h1, h2⟩ := fold_is hI kind pid parts
  refine ⟨r, hr, h1, fun h0 => ?_⟩
  obtain ⟨hJ, k1, k5, h3⟩ := h2 h0
  rcases h3 with ⟨e, hk, hq⟩ | ⟨x, y, e, ht, hy, hq⟩
  · have hp := hq pid
    rw [if_pos rfl] at hp
    refine ⟨hI, hJ, fun q hn => by rw [hq q, if_neg hn], fun _ => by rw [hp, e]; rfl, fun h => absurd hk h, by rw [e]; exact Int.le_refl 0, by rw [e]; show (0 : Int) ≤ _; omega⟩
  · have hp := hq pid
    rw [if_pos rfl] at hp
    have hx := hI.1 x (look_some e).1
    have hf : ep (Tn.look rows pid) = x.f1 := by rw [e]; rfl
    have hg : ep (Tn.look r.1 pid) = y.f1 := by rw [hp]; rfl
    have hty : (kind = 1 ∨ kind = 5 → y.f1 = x.f1 + 1) ∧ (kind ≠ 1 → kind ≠ 5 → y.f1 = x.f1) := by
      unfold txn_Fold.turn at ht
      by_cases c1 : kind = 1
      · rw [if_pos c1] at ht
        split at ht
        · obtain rfl := Option.some.inj ht; exact ⟨fun _ => rfl, fun h => absurd c1 h⟩
        · cases ht
      · rw [if_neg c1] at ht
        by_cases c2 : kind = 2
        · rw [if_pos c2] at ht
          split at ht
          · obtain rfl := Option.some.inj ht; exact ⟨fun h => by omega, fun _ _ => rfl⟩
          · cases ht
        · rw [if_neg c2] at ht
          by_cases c3 : kind = 5
          · rw [if_pos c3] at ht
            split at ht
            · obtain rfl := Option.some.inj ht; exact ⟨fun _ => rfl, fun _ h => absurd c3 h⟩
            · cases ht
          · rw [if_neg c3] at ht
            split at ht
            · obtain rfl := Option.some.inj ht; exact ⟨fun h => by omega, fun _ _ => rfl⟩
            · cases ht
    exact ⟨hI, hJ, fun q hn => by rw [hq q, if_neg hn], fun h => by rw [hf, hg, hty.1 h], fun h h' => by rw [hf, hg, hty.2 h h'], by rw [hf]; omega, by rw [hf]; omega⟩
theorem l1_eq (x0 : List S24) (rows m : List S27) (j : Nat) (hj : j < x0.length) (h : Chg rows m x0[j].f0 x0[j].f1) (d : Nat) : ∀ (p k : Nat), 9 - p = d → 1 ≤ p → p ≤ 9 → 20 ≤ k → headgatelaw12_TxnEpochs.l1 (k + d + 1) x0 rows (j : Int) m (p : Int) = headgatelaw12_TxnEpochs.l0 k x0 m (wrap64 ((j : Int) + 1)) := by
  induction d with
  | zero =>
    intro p k hd h1 h9 hk
    rw [Nat.add_zero, headgatelaw12_TxnEpochs.l1, if_neg (by omega)]
  | succ d ih =>
    intro p k hd h1 h9 hk
    have hn := ih (p + 1) k (by omega) (by omega) (by omega) hk
    rw [show k + (d + 1) + 1 = (k + d + 1) + 1 by omega, headgatelaw12_TxnEpochs.l1, if_pos (by omega), rrow2 h.i1 _ _ (by omega), Option.bind_some, rrow2 h.i2 _ _ (by omega), Option.bind_some, if_pos (by omega), if_pos (by omega), rd24_at x0 j hj, w64 (x := (p : Int) + 1) (by omega) (by omega), show (p : Int) + 1 = ((p + 1 : Nat) : Int) by omega, hn]
    by_cases c : (p : Int) = x0[j].f1
    · rw [if_pos c, c, rowv_ep, rowv_ep]
      by_cases c1 : x0[j].f0 = 1
      · have hu := h.up (Or.inl c1); have := h.lo; have := h.hi
        rw [if_pos c1, w64 (x := ep (Tn.look rows x0[j].f1) + 1) (by omega) (by omega), if_pos hu]
      · rw [if_neg c1]
        by_cases c5 : x0[j].f0 = 5
        · have hu := h.up (Or.inr c5); have := h.lo; have := h.hi
          rw [if_pos c5, w64 (x := ep (Tn.look rows x0[j].f1) + 1) (by omega) (by omega), if_pos hu, if_pos c5]
        · rw [if_neg c5, if_neg c5, if_pos (h.eq c1 c5)]
    · rw [if_neg c, h.far _ c, if_neg (by simp)]
theorem l0_eq (x0 : List S24) (d : Nat) : ∀ (j k : Nat) (rows : List S27), Inv rows → min x0.length 100 - j = d → j ≤ min x0.length 100 → 12 * d + 40 ≤ k → headgatelaw12_TxnEpochs.l0 k x0 rows (j : Int) = some true := by
  induction d with
  | zero =>
    intro j k rows hI hd hj hk
    obtain ⟨k, rfl⟩ : ∃ m, k = m + 2 := ⟨k - 2, by omega⟩
    have fin : headgatelaw12_TxnEpochs.j1 (k + 1) x0 rows (j : Int) false = some true := by
      rw [headgatelaw12_TxnEpochs.j1, if_neg (by decide), awake_eq _ (by omega), Option.bind_some]
    rw [headgatelaw12_TxnEpochs.l0]
    by_cases c : (j : Int) < (x0.length : Int)
    · rw [if_pos c, decide_eq_false (show ¬ (j : Int) < 100 by omega)]; exact fin
    · rw [if_neg c]; exact fin
  | succ d ih =>
    intro j k rows hI hd hj hk
    obtain ⟨k, rfl⟩ : ∃ m, k = m + 12 := ⟨k - 12, by omega⟩
    have hlt : j < x0.length := by omega
    obtain ⟨r, hr, h1, h2⟩ := chg hI x0[j].f0 x0[j].f1 x0[j].f2
    rw [headgatelaw12_TxnEpochs.l0, if_pos (by omega), decide_eq_true (show (j : Int) < 100 by omega), headgatelaw12_TxnEpochs.j1, if_pos rfl, if_pos (by omega), if_pos (by omega), rd24_at x0 j hlt, hr, Option.bind_some]
    by_cases e : r.2 = 0
    · have hc := h2 e
      have := l1_eq x0 rows r.1 j hlt hc 8 1 (k + 1) (by omega) (by omega) (by omega) (by omega)
      rw [if_pos e]
      refine Eq.trans this ?_
      rw [w64 (by omega) (by omega), show (j : Int) + 1 = ((j + 1 : Nat) : Int) by omega]
      exact ih (j + 1) (k + 1) r.1 hc.i2 (by omega) (by omega) (by omega)
    · rw [if_neg e, h1 e, if_neg (by decide), w64 (x := (j : Int) + 1) (by omega) (by omega), show (j : Int) + 1 = ((j + 1 : Nat) : Int) by omega]
      exact ih (j + 1) _ rows hI (by omega) (by omega) (by omega)
theorem TxnEpochs : headgatelaw12_TxnEpochs.Pure := by
  intro l h
  exact ⟨12 * (min l.length 100) + 40, l0_eq l _ 0 _ [] inv_nil rfl (by omega) (by omega)⟩
end Go.Proofs.Ytleongigmjhegaa.Pure
