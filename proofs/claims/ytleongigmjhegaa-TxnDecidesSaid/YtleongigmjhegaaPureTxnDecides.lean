/- For any notes, any producer and any parts: a transaction that is decided is followed by nothing but the close; chapter 12's example holds. No condition. -/
import Derived.Test.YtleongigmjhegaaPx3
import Derived.Test.YtleongigmjhegaaPx4
import Derived.Test.YtleongigmjhegaaPx5
import Derived.Test.YtleongigmjhegaaPx6
import Derived.Test.YtleongigmjhegaaPx14
import Derived.Test.YtleongigmjhegaaPx15
set_option linter.unusedVariables false
set_option linter.unusedSimpArgs false
namespace Go.Proofs.Ytleongigmjhegaa.Tn
open Go.RowKit Go.Proofs.Ytleongigmjhegaa.P Go.Proofs.YtleongigmjhegaaW.PrintWords Go.Proofs.YtleongigmjhegaaW.PrintLast Go.Proofs.YtleongigmjhegaaW.PrintMore
theorem w64 {x : Int} (h0 : -9223372036854775808 ≤ x) (h1 : x ≤ 9223372036854775807) : wrap64 x = x := by unfold wrap64; omega
theorem i64_of {n : Int} (h : (Lit.int .i64 n).wf = true) : -9223372036854775808 ≤ n ∧ n ≤ 9223372036854775807 := by
  simp [Lit.wf, IntKind.min, IntKind.max, IntKind.signed, IntKind.bits] at h
  omega
theorem rd24_at (s : List S24) (j : Nat) (h : j < s.length) : rd_T24 s (j : Int) = s[j] := by
  simp [rd_T24, List.getD_eq_getElem?_getD, List.getElem?_eq_getElem h]
theorem behind_step (x0 : List S24) (rows : List S27) (j : Nat) (h : j < x0.length) (h2 : j < 100) (k : Nat) (r : List S27 × Int) (hr : txn_Fold.f rows x0[j].f0 x0[j].f1 x0[j].f2 = some r) :
    headgatelaw12_behind.l0 (k + 2) x0 rows (j : Int) = headgatelaw12_behind.l0 k x0 (if r.2 = 0 then r.1 else rows) ((j + 1 : Nat) : Int) := by
  have e1 : wrap64 ((j : Int) + 1) = ((j + 1 : Nat) : Int) := by rw [w64 (by omega) (by omega)]; omega
  rw [headgatelaw12_behind.l0, if_pos (by omega), decide_eq_true (by omega), headgatelaw12_behind.j1, if_pos rfl, if_pos (by omega), if_pos (by omega), rd24_at x0 j h, hr, Option.bind_some, e1]
  split <;> rfl
theorem behind_end (x0 : List S24) (rows : List S27) (j : Nat) (h : x0.length ≤ j ∨ 100 ≤ j) (k : Nat) : headgatelaw12_behind.l0 (k + 2) x0 rows (j : Int) = some rows := by
  rw [headgatelaw12_behind.l0]
  split
  · rw [decide_eq_false (by omega), headgatelaw12_behind.j1, if_neg (by decide)]
  · rw [headgatelaw12_behind.j1, if_neg (by decide)]
theorem awake_20 : headgatelaw12_awake.f 20 = some true := by
  have e1 : txn_Fold.f [] 1 1 0 = some ([⟨1, 1, 1, 0, 0⟩], 0) := by rfl
  have e2 : txn_Fold.f [⟨1, 1, 1, 0, 0⟩] 2 1 5 = some ([⟨1, 1, 2, 5, 0⟩], 0) := by rfl
  have e3 : txn_Fold.f [⟨1, 1, 2, 5, 0⟩] 3 1 0 = some ([⟨1, 1, 3, 5, 0⟩], 0) := by rfl
  have e4 : txn_Fold.f [⟨1, 1, 3, 5, 0⟩] 5 1 0 = some ([⟨1, 2, 1, 0, 3⟩], 0) := by rfl
  unfold headgatelaw12_awake.f headgatelaw12_behind.f
  rw [show (0 : Int) = ((0 : Nat) : Int) from rfl, behind_step _ _ 0 (by decide) (by omega) 18 _ e1, if_pos rfl, behind_step _ _ 1 (by decide) (by omega) 16 _ e2, if_pos rfl, behind_step _ _ 2 (by decide) (by omega) 14 _ e3, if_pos rfl, behind_step _ _ 3 (by decide) (by omega) 12 _ e4, if_pos rfl, behind_end _ _ 4 (.inl (by decide)) 10, Option.bind_some]
  rfl
theorem awake_eq (k : Nat) (hk : 20 ≤ k) : headgatelaw12_awake.f k = some true :=
  at_rounds (g := headgatelaw12_awake.f) headgatelaw12_awake.mono hk awake_20
/-- What a row is known to be. -/
def okR (x : S27) : Prop := (1 ≤ x.f2 ∧ x.f2 ≤ 4) ∧ (0 ≤ x.f3 ∧ x.f3 < 8192) ∧ (x.f2 = 1 ↔ x.f3 = 0)
def Inv (l : List S27) : Prop := (∀ x ∈ l, 1 ≤ x.f0 ∧ x.f0 ≤ 8 ∧ 1 ≤ x.f1 ∧ x.f1 ≤ 1099511627776) ∧ (l.Pairwise fun a b => a.f0 < b.f0) ∧ ∀ x ∈ l, okR x
theorem B_iff {l : List S27} : txn_right.B l = true ↔ (∀ x ∈ l, 1 ≤ x.f0 ∧ x.f0 ≤ 8 ∧ 1 ≤ x.f1 ∧ x.f1 ≤ 1099511627776) ∧ l.Pairwise fun a b => a.f0 < b.f0 := by
  unfold txn_right.B
  simp only [Bool.and_eq_true, decide_eq_true_eq, List.all_eq_true]
theorem len8 {l : List S27} (h1 : ∀ x ∈ l, 1 ≤ x.f0 ∧ x.f0 ≤ 8) (h2 : l.Pairwise fun a b => a.f0 < b.f0) : l.length ≤ 8 := by
  have key : ∀ j, (hj : j < l.length) → (j : Int) + 1 ≤ l[j].f0 := by
    intro j
    induction j with
    | zero => intro hj; have := (h1 _ (List.getElem_mem hj)).1; omega
    | succ j ih =>
      intro hj
      have a := ih (by omega)
      have b := List.pairwise_iff_getElem.1 h2 j (j + 1) (by omega) hj (by omega)
      omega
  rcases Nat.lt_or_ge 8 l.length with h | h
  · have a := key 8 h
    have b := (h1 _ (List.getElem_mem h)).2
    omega
  · exact h
theorem rd27_at (s : List S27) (j : Nat) (h : j < s.length) : rd_T27 s (j : Int) = s[j] := by
  simp [rd_T27, List.getD_eq_getElem?_getD, List.getElem?_eq_getElem h]
/-- The row of a producer. -/
def look (l : List S27) (q : Int) : Option S27 := l.find? fun x => x.f0 == q
theorem look_some {l : List S27} {q : Int} {x : S27} (h : look l q = some x) : x ∈ l ∧ x.f0 = q := ⟨List.mem_of_find?_eq_some h, by simpa using List.find?_some h⟩
theorem look_set : ∀ (l : List S27) (i : Nat) (p : Int) (y : S27) (hi : i < l.length), l[i].f0 = p → y.f0 = p → (l.Pairwise fun a b => a.f0 < b.f0) → ∀ q, look (l.set i y) q = if q = p then some y else look l q
  | [], i, p, y, hi, _, _, _, q => by simp at hi
  | x :: l, 0, p, y, hi, h1, h2, h3, q => by
    simp only [List.getElem_cons_zero] at h1
    rw [List.set_cons_zero, look, look, List.find?_cons, List.find?_cons, h1, h2]
    by_cases e : q = p
    · subst e; simp
    · have : (p == q) = false := by rw [beq_eq_false_iff_ne]; exact fun h => e h.symm
      rw [this, if_neg e]
  | x :: l, i + 1, p, y, hi, h1, h2, h3, q => by
    have h3' := List.pairwise_cons.1 h3
    have hil : i < l.length := by simpa using hi
    simp only [List.getElem_cons_succ] at h1
    have hx : x.f0 < p := by rw [← h1]; exact h3'.1 _ (List.getElem_mem hil)
    have ih := look_set l i p y hil h1 h2 h3'.2 q
    unfold look at ih ⊢
    rw [List.set_cons_succ, List.find?_cons, List.find?_cons]
    by_cases e : x.f0 = q
    · rw [beq_iff_eq.2 e, if_neg (by omega)]
    · rw [beq_eq_false_iff_ne.2 e]
      exact ih
theorem look_ins : ∀ (l : List S27) (i : Nat) (p : Int) (y : S27), i ≤ l.length → y.f0 = p → (∀ x ∈ l, x.f0 ≠ p) → ∀ q, look (l.take i ++ y :: l.drop i) q = if q = p then some y else look l q
  | l, 0, p, y, hi, h1, h2, q => by
    rw [List.take_zero, List.drop_zero, List.nil_append, look, List.find?_cons, h1]
    by_cases e : q = p
    · subst e; simp
    · have : (p == q) = false := by rw [beq_eq_false_iff_ne]; exact fun h => e h.symm
      rw [this, if_neg e]; rfl
  | [], i + 1, p, y, hi, _, _, q => by simp at hi
  | x :: l, i + 1, p, y, hi, h1, h2, q => by
    have hx : x.f0 ≠ p := h2 x List.mem_cons_self
    have ih := look_ins l i p y (by simpa using hi) h1 (fun z hz => h2 z (List.mem_cons_of_mem _ hz)) q
    unfold look at ih ⊢
    rw [List.take_succ_cons, List.drop_succ_cons, List.cons_append, List.find?_cons, List.find?_cons]
    by_cases e : x.f0 = q
    · rw [beq_iff_eq.2 e, if_neg (fun h => hx (e.trans h))]
    · rw [beq_eq_false_iff_ne.2 e]
      exact ih
theorem lt0_lo : ∀ (l : List S27) (t : Int) (q : Nat), q < lt027 l t → (rd_T27 l (q : Int)).f0 < t
  | [], t, q, h => by simp [lt027] at h
  | x :: l, t, q, h => by
    unfold lt027 at h
    rw [List.takeWhile_cons] at h
    by_cases c : x.f0 < t
    · rw [if_pos (by simpa using c)] at h
      cases q with
      | zero => simpa [rd_T27] using c
      | succ q =>
        have := lt0_lo l t q (by simpa [lt027] using h)
        simpa [rd_T27] using this
    · rw [if_neg (by simpa using c)] at h
      simp at h
theorem lt0_hi : ∀ (l : List S27) (t : Int), lt027 l t < l.length → t ≤ (rd_T27 l (lt027 l t : Int)).f0
  | [], t, h => by simp at h
  | x :: l, t, h => by
    unfold lt027 at h ⊢
    rw [List.takeWhile_cons] at h ⊢
    by_cases c : x.f0 < t
    · rw [if_pos (by simpa using c)] at h ⊢
      have := lt0_hi l t (by simpa [lt027] using h)
      simpa [rd_T27, lt027] using this
    · rw [if_neg (by simpa using c)]
      simp [rd_T27]
      omega
/-- Nobody's row, where it is not found. -/
theorem no_row {l : List S27} (h2 : l.Pairwise fun a b => a.f0 < b.f0) {p : Int} (hf : ¬ (lt027 l p < l.length ∧ (rd_T27 l (lt027 l p : Int)).f0 = p)) : ∀ x ∈ l, x.f0 ≠ p := by
  intro x hx e
  obtain ⟨j, hj, rfl⟩ := List.getElem_of_mem hx
  have hle := lt0_le27 l p
  rcases Nat.lt_trichotomy j (lt027 l p) with h | h | h
  · have := lt0_lo l p j h
    rw [rd27_at l j hj] at this
    omega
  · exact hf ⟨by omega, by rw [← h, rd27_at l j hj]; exact e⟩
  · have a := lt0_hi l p (by omega)
    rw [rd27_at l _ (by omega)] at a
    have b := List.pairwise_iff_getElem.1 h2 (lt027 l p) j (by omega) hj h
    omega
theorem ins_sorted {l : List S27} (h2 : l.Pairwise fun a b => a.f0 < b.f0) {p : Int} {y : S27} (hy : y.f0 = p) (hn : ∀ x ∈ l, x.f0 ≠ p) : (l.take (lt027 l p) ++ y :: l.drop (lt027 l p)).Pairwise fun a b => a.f0 < b.f0 := by
  have hle := lt0_le27 l p
  have hlo : ∀ x ∈ l.take (lt027 l p), x.f0 < p := by
    intro x hx
    obtain ⟨j, hj, rfl⟩ := List.getElem_of_mem hx
    rw [List.length_take] at hj
    have := lt0_lo l p j (by omega)
    rw [rd27_at l j (by omega)] at this
    rw [List.getElem_take]; exact this
  have hhi : ∀ x ∈ l.drop (lt027 l p), p < x.f0 := by
    intro x hx
    obtain ⟨j, hj, rfl⟩ := List.getElem_of_mem hx
    rw [List.length_drop] at hj
    rw [List.getElem_drop]
    have a := lt0_hi l p (by omega)
    rw [rd27_at l _ (by omega)] at a
    have ne := hn _ (List.getElem_mem (show lt027 l p < l.length by omega))
    by_cases h0 : j = 0
    · subst h0; simp only [Nat.add_zero]; omega
    · have b := List.pairwise_iff_getElem.1 h2 (lt027 l p) (lt027 l p + j) (by omega) (by omega) (by omega)
      omega
  refine List.pairwise_append.2 ⟨h2.sublist (List.take_sublist _ _), List.pairwise_cons.2 ⟨fun x hx => by have := hhi x hx; omega, h2.sublist (List.drop_sublist _ _)⟩, fun a ha b hb => ?_⟩
  have ha' := hlo a ha
  rcases List.mem_cons.1 hb with rfl | hb
  · omega
  · have := hhi b hb; omega
theorem or_nat (a b : Nat) (ha : a < 8192) (hb : b < 8192) : Go.bits .or .i64 (a : Int) (b : Int) = ((a ||| b : Nat) : Int) ∧ a ||| b < 8192 ∧ b ≤ a ||| b := by
  have h1 : a ||| b < 2 ^ 13 := Nat.or_lt_two_pow (by omega) (by omega)
  refine ⟨?_, by omega, Nat.right_le_or⟩
  unfold Go.bits
  have e : ∀ n : Nat, n < 8192 → (BitVec.ofInt IntKind.i64.bits (n : Int)).toNat = n := fun n hn => by
    rw [BitVec.toNat_ofInt]
    show (((n : Int)) % 18446744073709551616).toNat = n
    omega
  have h3 : ((BitVec.ofInt IntKind.i64.bits (a : Int)) ||| (BitVec.ofInt IntKind.i64.bits (b : Int))).toNat = a ||| b := by
    rw [BitVec.toNat_or, e a ha, e b hb]
  show IntKind.i64.wrap ((((BitVec.ofInt IntKind.i64.bits (a : Int)) ||| (BitVec.ofInt IntKind.i64.bits (b : Int))).toNat : Nat) : Int) = _
  rw [h3, IntKind.wrap_i64]
  omega
/-- What one note comes to. -/
theorem fold_is {l : List S27} (hI : Inv l) (kind pid parts : Int) : ∃ r, txn_Fold.f l kind pid parts = some r ∧ (r.2 ≠ 0 → r.1 = []) ∧ (r.2 = 0 → Inv r.1 ∧ 1 ≤ kind ∧ kind ≤ 5 ∧
    ((look l pid = none ∧ kind = 1 ∧ ∀ q, look r.1 q = if q = pid then some ⟨pid, 1, 1, 0, 0⟩ else look l q) ∨
      ∃ x y, look l pid = some x ∧ txn_Fold.turn x kind parts = some y ∧ y.f1 ≤ 1099511627776 ∧ ∀ q, look r.1 q = if q = pid then some y else look l q)) := by
  obtain ⟨i1, i2, i3⟩ := hI
  unfold txn_Fold.f txn_Check.f txn_right.f
  rw [Option.bind_some]
  by_cases hc : (1 ≤ pid ∧ pid ≤ 8) ∧ 1 ≤ kind ∧ kind ≤ 5 ∧ (kind = 2 → 1 ≤ parts ∧ parts < 8192) ∧ (kind ≠ 2 → parts = 0)
  case neg => rw [if_neg hc, if_neg (by decide)]; exact ⟨_, rfl, fun _ => rfl, fun h => by cases h⟩
  rw [if_pos hc, if_pos rfl, Option.bind_some, if_pos (B_iff.2 ⟨i1, i2⟩)]
  have h8 := len8 (fun x hx => ⟨(i1 x hx).1, (i1 x hx).2.1⟩) i2
  rw [if_pos (by
    simp only [txn_Fold.okB, Bool.and_eq_true, decide_eq_true_eq, List.all_eq_true]
    exact ⟨⟨⟨i1, i2⟩, h8⟩, hc.2.1, hc.2.2.1, hc.1.1, hc.1.2⟩)]
  by_cases hf : lt027 l pid < l.length ∧ (rd_T27 l (lt027 l pid : Int)).f0 = pid
  · rw [if_pos hf]
    have hl : lt027 l pid < l.length := hf.1
    have e0 := hf.2
    rw [rd27_at l _ hl] at e0 ⊢
    have hlook : look l pid = some l[lt027 l pid] := by
      have := look_set l (lt027 l pid) pid l[lt027 l pid] hl e0 e0 i2 pid
      rwa [List.set_getElem_self, if_pos rfl] at this
    have hx := i1 _ (List.getElem_mem hl)
    have ho := i3 _ (List.getElem_mem hl)
    generalize hxe : l[lt027 l pid] = x at *
    cases ht : txn_Fold.turn x kind parts with
    | none => exact ⟨_, rfl, fun _ => rfl, fun h => by cases h⟩
    | some y =>
      dsimp only
      by_cases hm : y.f1 > 1099511627776
      · rw [if_pos hm]; exact ⟨_, rfl, fun _ => rfl, fun h => by cases h⟩
      · rw [if_neg hm]
        have hy : y.f0 = x.f0 ∧ x.f1 ≤ y.f1 ∧ okR y := by
          obtain ⟨o1, o2, o3⟩ := ho
          unfold txn_Fold.turn at ht
          split at ht
          · split at ht
            · injection ht with ht; subst ht; rename_i h; exact ⟨rfl, by dsimp only; omega, ⟨by dsimp only; omega, by dsimp only; omega, by dsimp only; simp [h]⟩⟩
            · cases ht
          · split at ht
            · split at ht
              · injection ht with ht
                subst ht
                rename_i hk2 _
                have hp := hc.2.2.2.1 hk2
                obtain ⟨a, ha⟩ : ∃ a : Nat, x.f3 = a := ⟨x.f3.toNat, by omega⟩
                obtain ⟨b, hb⟩ : ∃ b : Nat, parts = b := ⟨parts.toNat, by omega⟩
                obtain ⟨n1, n2, n3⟩ := or_nat a b (by omega) (by omega)
                exact ⟨rfl, Int.le_refl _, ⟨by dsimp only; omega, by dsimp only; rw [ha, hb, n1]; omega, by dsimp only; rw [ha, hb, n1]; omega⟩⟩
              · cases ht
            · split at ht
              · split at ht
                · injection ht with ht; subst ht; exact ⟨rfl, by dsimp only; omega, ⟨by dsimp only; omega, by dsimp only; omega, by dsimp only; simp⟩⟩
                · cases ht
              · split at ht
                · injection ht with ht; subst ht; exact ⟨rfl, Int.le_refl _, ⟨by dsimp only; omega, o2, by dsimp only; omega⟩⟩
                · cases ht
        refine ⟨_, rfl, fun h => (h rfl).elim, fun _ => ⟨⟨fun z hz => ?_, ?_, fun z hz => ?_⟩, hc.2.1, hc.2.2.1, .inr ⟨x, y, hlook, ht, by omega, look_set l _ pid y hl (by rw [hxe]; exact e0) (hy.1.trans e0) i2⟩⟩⟩
        · rcases List.mem_or_eq_of_mem_set hz with h | h
          · exact i1 z h
          · subst h; rw [hy.1]; exact ⟨hx.1, hx.2.1, by omega, by omega⟩
        · rw [List.pairwise_iff_getElem]
          intro a b ha hb hab
          rw [List.length_set] at ha hb
          have h := List.pairwise_iff_getElem.1 i2 a b ha hb hab
          rw [List.getElem_set, List.getElem_set]
          have e1 : ∀ c, (hc : c < l.length) → c = lt027 l pid → l[c].f0 = y.f0 := fun c hc e => by subst e; rw [hxe]; exact hy.1.symm
          split
          · split
            · omega
            · rw [← e1 a ha (by omega)]; exact h
          · split
            · rw [← e1 b hb (by omega)]; exact h
            · exact h
        · rcases List.mem_or_eq_of_mem_set hz with h | h
          · exact i3 z h
          · subst h; exact hy.2.2
  · rw [if_neg hf]
    have hn := no_row i2 hf
    by_cases hk : kind = 1
    · rw [if_pos hk]
      have hlook : look l pid = none := by
        rw [look, List.find?_eq_none]
        intro x hx
        simpa using hn x hx
      have hmem : ∀ z ∈ (l.take (lt027 l pid) ++ (⟨pid, 1, 1, 0, 0⟩ : S27) :: l.drop (lt027 l pid)), z = ⟨pid, 1, 1, 0, 0⟩ ∨ z ∈ l := by
        intro z hz
        rcases List.mem_append.1 hz with h | h
        · exact .inr (List.mem_of_mem_take h)
        · rcases List.mem_cons.1 h with h | h
          · exact .inl h
          · exact .inr (List.mem_of_mem_drop h)
      refine ⟨_, rfl, fun h => (h rfl).elim, fun _ => ⟨⟨fun z hz => ?_, ins_sorted i2 rfl hn, fun z hz => ?_⟩, hc.2.1, hc.2.2.1, .inl ⟨hlook, hk, look_ins l _ pid _ (lt0_le27 l pid) rfl hn⟩⟩⟩
      · rcases hmem z hz with rfl | h
        · exact ⟨hc.1.1, hc.1.2, by dsimp only; omega, by dsimp only; omega⟩
        · exact i1 z h
      · rcases hmem z hz with rfl | h
        · exact ⟨by dsimp only; omega, by dsimp only; omega, by dsimp only; simp⟩
        · exact i3 z h
    · rw [if_neg hk]; exact ⟨_, rfl, fun _ => rfl, fun h => by cases h⟩
theorem bits_and_mask (x : Int) (n : Nat) (hn : n ≤ 62) : Go.bits .and .i64 x (((2 ^ n - 1 : Nat) : Int)) = ((x % 18446744073709551616).toNat % 2 ^ n : Nat) := by
  unfold Go.bits
  have h1 : (BitVec.ofInt IntKind.i64.bits x).toNat = (x % 18446744073709551616).toNat := by rw [BitVec.toNat_ofInt]; rfl
  have hp : 2 ^ n ≤ 2 ^ 62 := Nat.pow_le_pow_right (by omega) hn
  have h2 : (BitVec.ofInt IntKind.i64.bits ((2 ^ n - 1 : Nat) : Int)).toNat = 2 ^ n - 1 := by
    rw [BitVec.toNat_ofInt]
    show (((2 ^ n - 1 : Nat) : Int) % 18446744073709551616).toNat = _
    generalize 2 ^ n = m at *
    omega
  have h3 : ((BitVec.ofInt IntKind.i64.bits x) &&& (BitVec.ofInt IntKind.i64.bits ((2 ^ n - 1 : Nat) : Int))).toNat = (x % 18446744073709551616).toNat % 2 ^ n := by
    rw [BitVec.toNat_and, h1, h2, Nat.and_two_pow_sub_one_eq_mod]
  show IntKind.i64.wrap ((((BitVec.ofInt IntKind.i64.bits x) &&& (BitVec.ofInt IntKind.i64.bits ((2 ^ n - 1 : Nat) : Int))).toNat : Nat) : Int) = _
  rw [h3, IntKind.wrap_i64]
  have hpos : 0 < 2 ^ n := Nat.pos_of_ne_zero (by simp)
  have := Nat.mod_lt (x % 18446744073709551616).toNat hpos
  generalize 2 ^ n = m at *
  omega
/-- The rows behind a note. -/
def step (rows : List S27) (n : S24) : List S27 := match txn_Fold.f rows n.f0 n.f1 n.f2 with
  | some r => if r.2 = 0 then r.1 else rows
  | none => rows
theorem step_of {rows : List S27} {n : S24} {r : List S27 × Int} (h : txn_Fold.f rows n.f0 n.f1 n.f2 = some r) : step rows n = if r.2 = 0 then r.1 else rows := by unfold step; rw [h]
theorem step_inv {rows : List S27} (h : Inv rows) (n : S24) : Inv (step rows n) := by
  obtain ⟨r, hr, _, h1⟩ := fold_is h n.f0 n.f1 n.f2
  rw [step_of hr]
  split
  · rename_i e; exact (h1 e).1
  · exact h
theorem inv_nil : Inv [] := ⟨fun x hx => by simp at hx, List.Pairwise.nil, fun x hx => by simp at hx⟩
theorem behind_l0 (l : List S24) (d : Nat) : ∀ (j : Nat) (rows : List S27) (k : Nat), Inv rows → (l.take 100).length - j = d → j ≤ (l.take 100).length → 2 * d + 2 ≤ k → headgatelaw12_behind.l0 k l rows (j : Int) = some (((l.take 100).drop j).foldl step rows) := by
  have hl : (l.take 100).length = min 100 l.length := List.length_take
  induction d with
  | zero =>
    intro j rows k hI hd hj hk
    obtain ⟨k, rfl⟩ : ∃ m, k = m + 2 := ⟨k - 2, by omega⟩
    rw [behind_end l rows j (by omega) k, List.drop_eq_nil_of_le (by omega)]
    rfl
  | succ d ih =>
    intro j rows k hI hd hj hk
    obtain ⟨k, rfl⟩ : ∃ m, k = m + 2 := ⟨k - 2, by omega⟩
    have hlt : j < (l.take 100).length := by omega
    have hj2 : j < l.length := by omega
    obtain ⟨r, hr⟩ : ∃ r, txn_Fold.f rows l[j].f0 l[j].f1 l[j].f2 = some r := by
      obtain ⟨r, hr, _⟩ := fold_is hI l[j].f0 l[j].f1 l[j].f2
      exact ⟨r, hr⟩
    rw [behind_step l rows j hj2 (by omega) k r hr, ← step_of hr, ih (j + 1) _ k (step_inv hI _) (by omega) (by omega) (by omega), List.drop_eq_getElem_cons hlt, List.foldl_cons, List.getElem_take]
def after (l : List S24) : List S27 := (l.take 100).foldl step []
theorem foldl_inv : ∀ (l : List S24) (rows : List S27), Inv rows → Inv (l.foldl step rows)
  | [], _, h => h
  | n :: l, _, h => foldl_inv l _ (step_inv h n)
theorem after_inv (l : List S24) : Inv (after l) := foldl_inv _ _ inv_nil
theorem behind_eq (l : List S24) (k : Nat) (hk : 300 ≤ k) : headgatelaw12_behind.f k l = some (after l) := by
  have hl : (l.take 100).length = min 100 l.length := List.length_take
  have := behind_l0 l _ 0 [] k inv_nil rfl (by omega) (by omega)
  unfold headgatelaw12_behind.f after
  rw [List.drop_zero] at this
  exact this
theorem row_l0 (l : List S27) (q : Int) (hl : l.length ≤ 8) (d : Nat) : ∀ (j k : Nat), l.length - j = d → j ≤ l.length → d < k → txn_Row.l0 k q l (l.length : Int) (j : Int) = some (match (l.drop j).find? (fun x => x.f0 == q) with | some x => (x.f0, x.f1, x.f2, x.f3, x.f4, 0) | none => (0, 0, 0, 0, 0, 3)) := by
  induction d with
  | zero =>
    intro j k hd hj hk
    obtain ⟨k, rfl⟩ : ∃ m, k = m + 1 := ⟨k - 1, by omega⟩
    rw [txn_Row.l0, if_neg (by omega), List.drop_eq_nil_of_le (by omega)]
    rfl
  | succ d ih =>
    intro j k hd hj hk
    obtain ⟨k, rfl⟩ : ∃ m, k = m + 1 := ⟨k - 1, by omega⟩
    have hlt : j < l.length := by omega
    have e1 : wrap64 ((j : Int) + 1) = ((j + 1 : Nat) : Int) := by rw [w64 (by omega) (by omega)]; omega
    rw [txn_Row.l0, if_pos (by omega), if_pos (by omega), if_pos (by omega), rd27_at l j hlt, e1, ih (j + 1) k (by omega) (by omega) (by omega), List.drop_eq_getElem_cons hlt, List.find?_cons]
    by_cases c : l[j].f0 = q
    · rw [if_pos c, beq_iff_eq.2 c]
    · rw [if_neg c, beq_eq_false_iff_ne.2 c]
theorem row_eq {l : List S27} (hI : Inv l) (q : Int) (k : Nat) (hk : 20 ≤ k) : txn_Row.f k l q = some (match look l q with | some x => (x.f0, x.f1, x.f2, x.f3, x.f4, 0) | none => (0, 0, 0, 0, 0, 3)) := by
  have h8 := len8 (fun x hx => ⟨(hI.1 x hx).1, (hI.1 x hx).2.1⟩) hI.2.1
  have := row_l0 l q h8 l.length 0 k (by omega) (by omega) (by omega)
  rw [List.drop_zero] at this
  exact this
end Go.Proofs.Ytleongigmjhegaa.Tn
set_option linter.unusedVariables false
namespace Go.Proofs.Ytleongigmjhegaa.Pure
open Go.RowKit Go.Proofs.Ytleongigmjhegaa.Tn Go.Proofs.Ytleongigmjhegaa.P Go.Proofs.YtleongigmjhegaaW.PrintWords Go.Proofs.YtleongigmjhegaaW.PrintLast Go.Proofs.YtleongigmjhegaaW.PrintMore
theorem rrow_l0 (l : List S27) (q : Int) (hl : l.length ≤ 8) (d : Nat) : ∀ (j k : Nat), l.length - j = d → j ≤ l.length → d < k → headgateref12_Row.l0 k l q (j : Int) = some (match (l.drop j).find? (fun x => x.f0 == q) with | some x => (x.f0, x.f1, x.f2, x.f3, x.f4, 0) | none => (0, 0, 0, 0, 0, 3)) := by
  induction d with
  | zero =>
    intro j k hd hj hk
    obtain ⟨k, rfl⟩ : ∃ m, k = m + 1 := ⟨k - 1, by omega⟩
    rw [headgateref12_Row.l0, if_neg (by omega), List.drop_eq_nil_of_le (by omega)]
    rfl
  | succ d ih =>
    intro j k hd hj hk
    obtain ⟨k, rfl⟩ : ∃ m, k = m + 1 := ⟨k - 1, by omega⟩
    have hlt : j < l.length := by omega
    have e1 : wrap64 ((j : Int) + 1) = ((j + 1 : Nat) : Int) := by rw [w64 (by omega) (by omega)]; omega
    rw [headgateref12_Row.l0, if_pos (by omega), if_pos (by omega), rd27_at l j hlt, e1, ih (j + 1) k (by omega) (by omega) (by omega), List.drop_eq_getElem_cons hlt, List.find?_cons]
    by_cases c : l[j].f0 = q
    · rw [if_pos c, beq_iff_eq.2 c]
    · rw [if_neg c, beq_eq_false_iff_ne.2 c]
theorem rrow_eq {l : List S27} (hI : Inv l) (q : Int) (k : Nat) (hk : 20 ≤ k) : headgateref12_Row.f k l q = some (match Tn.look l q with | some x => (x.f0, x.f1, x.f2, x.f3, x.f4, 0) | none => (0, 0, 0, 0, 0, 3)) := by
  have h8 := len8 (fun x hx => ⟨(hI.1 x hx).1, (hI.1 x hx).2.1⟩) hI.2.1
  have := rrow_l0 l q h8 l.length 0 k (by omega) (by omega) (by omega)
  rw [List.drop_zero] at this
  exact this
/-- No row's epoch is more than n. -/
def Bd (l : List S27) (n : Nat) : Prop := ∀ q x, Tn.look l q = some x → x.f1 ≤ n
theorem turn_f1 {x y : S27} {kind parts : Int} (h : txn_Fold.turn x kind parts = some y) : y.f1 ≤ x.f1 + 1 := by
  unfold txn_Fold.turn at h
  split at h
  · split at h
    · injection h with h; subst h; exact Int.le_refl _
    · cases h
  · split at h
    · split at h
      · injection h with h; subst h; dsimp only; omega
      · cases h
    · split at h
      · split at h
        · injection h with h; subst h; exact Int.le_refl _
        · cases h
      · split at h
        · injection h with h; subst h; dsimp only; omega
        · cases h
theorem step_bd {l : List S27} (hI : Inv l) {n : Nat} (hb : Bd l n) (s : S24) : Bd (Tn.step l s) (n + 1) := by
  obtain ⟨r, hr, _, h2⟩ := fold_is hI s.f0 s.f1 s.f2
  rw [step_of hr]
  have keep : Bd l (n + 1) := fun q x hx => by have := hb q x hx; omega
  by_cases c : r.2 = 0
  · rw [if_pos c]
    obtain ⟨_, _, _, hc⟩ := h2 c
    rcases hc with ⟨_, _, hl⟩ | ⟨x, y, hx, ht, _, hl⟩
    · intro q z hz
      rw [hl] at hz
      by_cases e : q = s.f1
      · rw [if_pos e] at hz; injection hz with hz; subst hz; dsimp only; omega
      · rw [if_neg e] at hz; exact keep q z hz
    · intro q z hz
      rw [hl] at hz
      by_cases e : q = s.f1
      · rw [if_pos e] at hz; injection hz with hz; subst hz
        have := turn_f1 ht; have := hb _ _ hx; omega
      · rw [if_neg e] at hz; exact keep q z hz
  · rw [if_neg c]; exact keep
theorem foldl_bd : ∀ (l : List S24) (rows : List S27) (n : Nat), Inv rows → Bd rows n → Bd (l.foldl Tn.step rows) (n + l.length)
  | [], _, n, _, h => h
  | s :: l, rows, n, hI, h => by
    have := foldl_bd l _ (n + 1) (step_inv hI s) (step_bd hI h s)
    rw [List.foldl_cons, List.length_cons, show n + (l.length + 1) = n + 1 + l.length by omega]
    exact this
theorem after_bd (l : List S24) : Bd (after l) 100 := by
  have := foldl_bd (l.take 100) [] 0 inv_nil (fun q x hx => by simp [Tn.look] at hx)
  have hl : (l.take 100).length = min 100 l.length := List.length_take
  intro q x hx
  have := this q x hx
  omega
/-- A note for a producer that has a row. -/
theorem fold_found {l : List S27} (hI : Inv l) {kind pid parts : Int} {x : S27} (hx : Tn.look l pid = some x) (hc : (1 ≤ pid ∧ pid ≤ 8) ∧ 1 ≤ kind ∧ kind ≤ 5 ∧ (kind = 2 → 1 ≤ parts ∧ parts < 8192) ∧ (kind ≠ 2 → parts = 0)) :
    txn_Fold.f l kind pid parts = (match txn_Fold.turn x kind parts with
      | none => some ([], 9)
      | some y => if y.f1 > 1099511627776 then some ([], 6) else some (l.set (lt027 l pid) y, 0)) := by
  obtain ⟨i1, i2, i3⟩ := hI
  unfold txn_Fold.f txn_Check.f txn_right.f
  rw [Option.bind_some, if_pos hc, if_pos rfl, Option.bind_some, if_pos (B_iff.2 ⟨i1, i2⟩)]
  have h8 := len8 (fun x hx => ⟨(i1 x hx).1, (i1 x hx).2.1⟩) i2
  rw [if_pos (by
    simp only [txn_Fold.okB, Bool.and_eq_true, decide_eq_true_eq, List.all_eq_true]
    exact ⟨⟨⟨i1, i2⟩, h8⟩, hc.2.1, hc.2.2.1, hc.1.1, hc.1.2⟩)]
  obtain ⟨hm, h0⟩ := look_some hx
  by_cases hf : lt027 l pid < l.length ∧ (rd_T27 l (lt027 l pid : Int)).f0 = pid
  · rw [if_pos hf]
    have hl : lt027 l pid < l.length := hf.1
    have e0 := hf.2
    rw [rd27_at l _ hl] at e0 ⊢
    have hlook : Tn.look l pid = some l[lt027 l pid] := by
      have := look_set l (lt027 l pid) pid l[lt027 l pid] hl e0 e0 i2 pid
      rwa [List.set_getElem_self, if_pos rfl] at this
    rw [hx] at hlook
    injection hlook with hlook
    rw [← hlook]
    cases txn_Fold.turn x kind parts <;> rfl
  · exact (no_row i2 hf x hm h0).elim
theorem mask12 (b : Int) : 1 ≤ wrap64 (1 + Go.bits .and .i64 b 4095) ∧ wrap64 (1 + Go.bits .and .i64 b 4095) < 8192 := by
  have h := bits_and_mask b 12 (by omega)
  rw [show (((2 ^ 12 - 1 : Nat) : Int)) = 4095 from rfl] at h
  rw [h]
  have : (b % 18446744073709551616).toNat % 2 ^ 12 < 4096 := Nat.mod_lt _ (by decide)
  generalize (b % 18446744073709551616).toNat % 2 ^ 12 = m at *
  rw [w64 (by omega) (by omega)]
  omega
theorem TxnDecides : headgatelaw12_TxnDecides.Pure := by
  intro l a b _ ha hb
  have ha := i64_of ha
  have hI := after_inv l
  have hB := after_bd l
  refine ⟨1000, ?_⟩
  unfold headgatelaw12_TxnDecides.f
  rw [behind_eq l 1000 (by omega), Option.bind_some, row_eq hI a 1000 (by omega), Option.bind_some, rrow_eq hI a 1000 (by omega), Option.bind_some]
  generalize after l = rows at *
  cases hx : Tn.look rows a with
  | none =>
    dsimp only
    rw [if_neg (by simp), show ((3 : Int) != 3) = false from rfl, show 1000 = 999 + 1 from rfl, headgatelaw12_TxnDecides.j0, if_neg (by decide), if_neg (by decide), show ((0 : Int) != 4) = true from rfl, show 999 = 998 + 1 from rfl, headgatelaw12_TxnDecides.j1, if_pos rfl, awake_eq _ (by omega), Option.bind_some]
  | some x =>
    dsimp only
    obtain ⟨hm, h0⟩ := look_some hx
    rw [if_neg (by simp), show ((0 : Int) != 0) = false from rfl, show 1000 = 999 + 1 from rfl, headgatelaw12_TxnDecides.j0, if_neg (by decide)]
    have fin : (x.f2 = 3 ∨ x.f2 = 4) → headgatelaw12_TxnDecides.j1 999 a b rows false x.f0 x.f1 x.f2 x.f3 x.f4 = some true := by
      intro h34
      have hp : 1 ≤ a ∧ a ≤ 8 := by have := hI.1 x hm; omega
      have h1 := hB a x hx
      have hno : ∀ kind parts, 1 ≤ kind → kind ≤ 4 → txn_Fold.turn x kind parts = none := by
        intro kind parts k1 k4
        unfold txn_Fold.turn
        split
        · rw [if_neg (by omega)]
        · split
          · rw [if_neg (by omega)]
          · rw [if_neg (by omega), if_neg (by omega)]
      have f1 : ∀ kind, 1 ≤ kind → kind ≤ 4 → kind ≠ 2 → txn_Fold.f rows kind a 0 = some ([], 9) := fun kind k1 k4 k2 => by
        rw [fold_found hI hx ⟨hp, k1, by omega, fun h => (k2 h).elim, fun _ => rfl⟩, hno kind 0 k1 k4]
      have f2 : txn_Fold.f rows 2 a (wrap64 (1 + (Go.bits .and .i64 b 4095))) = some ([], 9) := by
        rw [fold_found hI hx ⟨hp, by omega, by omega, fun _ => mask12 b, fun h => (h rfl).elim⟩, hno 2 _ (by omega) (by omega)]
      have ht : txn_Fold.turn x 5 0 = some ⟨x.f0, x.f1 + 1, 1, 0, x.f2⟩ := by
        unfold txn_Fold.turn
        rw [if_neg (by decide), if_neg (by decide), if_pos rfl, if_pos h34]
      have f5 : ∃ r, txn_Fold.f rows 5 a 0 = some (r, 0) ∧ Inv r ∧ Tn.look r a = some ⟨x.f0, x.f1 + 1, 1, 0, x.f2⟩ := by
        have e := fold_found hI hx (kind := 5) (parts := 0) ⟨hp, by omega, by omega, fun h => by omega, fun _ => rfl⟩
        rw [ht] at e
        dsimp only at e
        rw [if_neg (by omega)] at e
        obtain ⟨r, hr, _, h2⟩ := fold_is hI 5 a 0
        rw [e] at hr
        injection hr with hr
        subst hr
        obtain ⟨i, _, _, hc⟩ := h2 rfl
        refine ⟨_, e, i, ?_⟩
        rcases hc with ⟨hn, _⟩ | ⟨x', y, hx', ht', _, hl⟩
        · rw [hx] at hn; cases hn
        · rw [hx] at hx'
          injection hx' with hx'
          subst hx'
          rw [ht] at ht'
          injection ht' with ht'
          rw [hl, if_pos rfl, ht']
      have s1 : ∀ k kind, 1 ≤ kind → kind ≤ 4 → headgatelaw12_TxnDecides.l0 (k + 1) a b rows kind x.f0 x.f1 x.f2 x.f3 x.f4 = headgatelaw12_TxnDecides.l0 k a b rows (kind + 1) x.f0 x.f1 x.f2 x.f3 x.f4 := by
        intro k kind k1 k4
        have e1 : wrap64 (kind + 1) = kind + 1 := w64 (by omega) (by omega)
        rw [headgatelaw12_TxnDecides.l0, if_pos (by omega), e1]
        by_cases k2 : kind = 2
        · subst k2
          rw [if_pos rfl, f2, Option.bind_some, if_pos rfl, if_neg (by simp)]
        · rw [if_neg k2, f1 kind k1 k4 k2, Option.bind_some, if_pos rfl, if_neg (by simp)]
      obtain ⟨r, hr, hIr, hlr⟩ := f5
      rw [show 999 = 998 + 1 from rfl, headgatelaw12_TxnDecides.j1, if_neg (by decide), show 998 = 997 + 1 from rfl, s1 _ _ (by omega) (by omega), show 997 = 996 + 1 from rfl, s1 _ _ (by omega) (by omega), show 996 = 995 + 1 from rfl, s1 _ _ (by omega) (by omega), show 995 = 994 + 1 from rfl, s1 _ _ (by omega) (by omega), show 994 = 993 + 1 from rfl, headgatelaw12_TxnDecides.l0, if_neg (by omega), hr, Option.bind_some, row_eq hIr a _ (by omega), Option.bind_some, hlr]
      have hf1 := (hI.1 x hm).2.2.1
      dsimp only
      rw [if_pos rfl, if_pos rfl, w64 (by omega) (by omega), if_pos (by simp [h0]), awake_eq _ (by omega), Option.bind_some]
    by_cases h3 : x.f2 = 3
    · rw [if_pos h3]; exact fin (.inl h3)
    · rw [if_neg h3]
      by_cases h4 : x.f2 = 4
      · rw [show (x.f2 != 4) = false by simp [h4]]; exact fin (.inr h4)
      · rw [show (x.f2 != 4) = true by simp [h4], show 999 = 998 + 1 from rfl, headgatelaw12_TxnDecides.j1, if_pos rfl, awake_eq _ (by omega), Option.bind_some]
end Go.Proofs.Ytleongigmjhegaa.Pure
