-- Written by wip/mk.py of this repo: the kit's print program, with contracts of our own among its functions.
import Derived.Test.YthoegjpcjclbjaaPx0
namespace Go.Proofs.Ythoegjpcjclbjaa.P
open Go.RowKit Go.Proofs.YthoegjpcjclbjaaW.PrintWords Go.Proofs.YthoegjpcjclbjaaW.PrintLast Go.Proofs.YthoegjpcjclbjaaW.PrintMore
attribute [local go_sem] max2_int min2_int max_two min_two max_three min_three max_four min_four   -- for this text's walks alone
set_option linter.unusedVariables false
set_option linter.unusedSimpArgs false

/-! ### api_Prod_22: function 22 -/
def enc44 (x : S44) : List Value := [.int .i64 x.f0, .int .i64 x.f1, .int .i64 x.f2, .int .i64 x.f3, .int .i64 x.f4]
theorem flat44 : Sl.Flat k44 enc44 :=
  ⟨fun w base ok x cs => ⟨fun h => k44_openM h, fun h => by subst h; exact k44_mkM w base ok x⟩, fun w x cs => ⟨fun h => k44_open h, fun h => by subst h; exact k44_mk w x⟩⟩
def api_Prod_22.f (l0 : List S44) : Option (List S44) := if l0.length * 40 ≤ 140737488355328 then some l0 else none
set_option maxHeartbeats 4000000 in
set_option maxRecDepth 100000 in
theorem api_Prod_22.calls (A0 : Option Addr) (c0 : Nat) (l0 : List S44) (r : List S44) (w : World) (hr0 : Kd.C k44 w A0 l0.length l0) (hc0 : l0.length ≤ c0) (h : api_Prod_22.f l0 = some r) :
    Calls Try.prog 22 #[.slice A0 l0.length c0] w fun e w' => ∃ v0_ : Value, e = .returned v0_ ∧ Kd.R k44 44 w' w.heap.size (fun _ => True) v0_ r ∧ Below w.heap.size w w' := by
  have HC := Aside0.mk hr0
  have HB0 := Aside0.mk (Below.refl w.heap.size w)
  unfold api_Prod_22.f at h
  split at h
  case isFalse => cases h
  rename_i hbytes
  injection h with h
  subst h
  clear hr0
  rcases A0 with _ | ad
  · have hn : l0 = [] := by
      have h1 := HC.out.2.2
      by_cases h0 : 0 < l0.length
      · obtain ⟨ad, h2, _⟩ := h1 h0; cases h2
      · exact List.eq_nil_of_length_eq_zero (by omega)
    subst hn
    have q0 : ∀ (w : World) (a : Option Addr) (n c n' c' : Nat), (binOp .eql 22 (.slice a n c) (.slice none n' c')).run Try.prog w = .ok (.bool a.isNone) w := fun w a n c n' c' => Lib.run_eql_slice_nil w _ _ a n c n' c' Try.underlying22
    go_enter Try.func22, Try.ntmps22
    go_wp2
    go_ret
    exact ⟨_, rfl, Kd.R_nil _ _ _ _ _, HB0.out⟩
  · have q0 : ∀ (w : World) (a : Option Addr) (n c n' c' : Nat), (binOp .eql 22 (.slice a n c) (.slice none n' c')).run Try.prog w = .ok (.bool a.isNone) w := fun w a n c n' c' => Lib.run_eql_slice_nil w _ _ a n c n' c' Try.underlying22
    have huS := Try.underlying22
    have HR0 : Aside0 (Kd.R k44 44 (w.alloc (.cells #[] 44)) w.heap.size (fun _ => True) (.slice (some ⟨w.heap.size, 0, none⟩) 0 0) []) := ⟨Sl.R_block (xs := []) flat44 (Nat.le_refl _) (blk_new w _) trivial (Nat.le_refl _) (by omega) (by simp) rfl⟩
    have HRd : Aside0 (ReadsRow (k44.K (w.alloc (.cells #[] 44))) k44.sz (w.alloc (.cells #[] 44)) (some ad) l0.length l0) := ⟨Kd.C_below HC.out (below_alloc (Below.refl _ _) _)⟩
    go_enter Try.func22, Try.ntmps22
    go_wp2_with (at_builtin; refine Kd.R_append_rows k44 (Rr := k44.K (w.alloc (.cells #[] 44))) (w0 := w) w.heap.size rfl _ _ _ 44 (.agg #[(.int .i64 0), (.int .i64 0), (.int .i64 0), (.int .i64 0), (.int .i64 0)]) 40 rfl huS (by kernel_rfl) rfl (by decide) (by decide) _ [] l0 (some ad) l0.length c0 (fun _ => True) (fun _ => False) rfl rfl HR0.out HRd.out (fun x cs hx => by rw [(flat44.k _ _ _).1 hx]; exact (flat44.m _ _ _ _ _).2 rfl) (fun _ hk => hk.elim) (fun _ _ => trivial) (below_alloc (Below.refl _ _) _) (by simp) (by simpa using hbytes) ?_; intro v1 w1 hR1 hB1 _ _; have HR1 := Aside0.mk hR1; have HB1 := Aside0.mk hB1; clear hR1 hB1)
    go_ret
    refine ⟨_, rfl, ?_, HB1.out⟩
    have := HR1.out
    rwa [List.nil_append] at this
theorem clone44 (A0 : Option Addr) (c0 : Nat) (l0 : List S44) (w : World) (hr0 : Kd.C k44 w A0 l0.length l0) (hc0 : l0.length ≤ c0) (hb : l0.length * 40 ≤ 140737488355328) :
    Calls Try.prog 22 #[.slice A0 l0.length c0] w fun e w' => ∃ v0_ : Value, e = .returned v0_ ∧ Kd.R k44 44 w' w.heap.size (fun _ => True) v0_ l0 ∧ Below w.heap.size w w' := api_Prod_22.calls A0 c0 l0 l0 w hr0 hc0 (if_pos hb)

-- NOT PRINTED: function 33 (api_Prod_33)

-- NOT PRINTED: function 39 (api_Prod_39)

-- NOT PRINTED: function 37 (api_Prod_37)

-- NOT PRINTED: function 34 (api_Prod_34)

-- NOT PRINTED: function 23 (api_Prod_23)

end Go.Proofs.Ythoegjpcjclbjaa.P
