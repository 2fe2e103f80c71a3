-- Written by wip/mk.py of this repo: the kit's print program, with contracts of our own among its functions.
import Derived.Test.YtleongigmjhegaaPx0
import Derived.Test.YtleongigmjhegaaPx6
import Derived.Test.YtleongigmjhegaaPx17
namespace Go.Proofs.Ytleongigmjhegaa.P
open Go.RowKit Go.Proofs.YtleongigmjhegaaW.PrintWords Go.Proofs.YtleongigmjhegaaW.PrintLast Go.Proofs.YtleongigmjhegaaW.PrintMore
attribute [local go_sem] max2_int min2_int max_two min_two max_three min_three max_four min_four   -- for this text's walks alone
set_option linter.unusedVariables false
set_option linter.unusedSimpArgs false

/-! ### headgateref01_All: function 33 -/
def headgateref01_All.l0 : Nat → List Int → ByteArray → Int → Option (ByteArray)
  | 0, _, _, _ => none
  | k + 1, x0, x3, x4 => if x4 < (x0.length : Int) then (if 0 ≤ x4 then ((headgateref01_Put.f k (rd x0 x4)).bind fun t321 => (if x3.size + t321.size ≤ 9223372036854775807 then (headgateref01_All.l0 k x0 (x3 ++ t321) (wrap64 (x4 + 1))) else (none))) else (none)) else (some x3)
def headgateref01_All.f (k : Nat) (l0 : List Int) : Option (ByteArray) := headgateref01_All.l0 k l0 (⟨#[]⟩ : ByteArray) 0
theorem headgateref01_All.mono_l : ∀ k, (∀ y0 y1 y2, LeO (headgateref01_All.l0 k y0 y1 y2) (headgateref01_All.l0 (k + 1) y0 y1 y2))
  | 0 => fun _ _ _ r h => by simp [headgateref01_All.l0] at h
  | k + 1 => by
    have ih0 := headgateref01_All.mono_l k
    · intro y0 y1 y2
      unfold headgateref01_All.l0
      repeat' first
      | (with_reducible exact ih0 _ _ _)
      | (with_reducible exact headgateref01_Put.mono _ _)
      | (with_reducible exact LeO.refl _)
      | (with_reducible exact LeO.none _)
      | (with_reducible refine LeO.ite ?_ ?_)
      | (with_reducible refine LeO.bind ?_ (fun _ => ?_))
      | exact ih0 _ _ _
      | exact headgateref01_Put.mono _ _
      | exact LeO.none _
      | refine LeO.ite ?_ ?_
      | refine LeO.bind ?_ (fun _ => ?_)
theorem headgateref01_All.mono : ∀ a0 k, LeO (headgateref01_All.f k a0) (headgateref01_All.f (k + 1) a0) := by
  intro a0 k
  have ih0 := headgateref01_All.mono_l k
  unfold headgateref01_All.f
  repeat' first
      | (with_reducible exact ih0 _ _ _)
      | (with_reducible exact headgateref01_Put.mono _ _)
      | (with_reducible exact LeO.refl _)
      | (with_reducible exact LeO.none _)
      | (with_reducible refine LeO.ite ?_ ?_)
      | (with_reducible refine LeO.bind ?_ (fun _ => ?_))
      | exact ih0 _ _ _
      | exact headgateref01_Put.mono _ _
      | exact LeO.none _
      | refine LeO.ite ?_ ?_
      | refine LeO.bind ?_ (fun _ => ?_)
set_option maxHeartbeats 8000000 in
set_option maxRecDepth 100000 in
theorem headgateref01_All.calls (k : Nat) (A0 : Option Addr) (c0 : Nat) (l0 : List Int) (r : ByteArray) (w : World) (hr0 : Kd.C (Kd.int .i64) w A0 l0.length l0) (hc0 : l0.length ≤ c0) (h : headgateref01_All.f k l0 = some r) :
    Calls Try.prog 33 #[.slice A0 l0.length c0] w fun e w' => e = .returned (.string r) ∧ Below w.heap.size w w' := by
  have HR0 := Aside0.mk hr0
  have HC0 := Aside0.mk hc0
  clear hr0 hc0
  have HB := Aside0.mk (Below.refl w.heap.size w)
  have H : (headgateref01_All.l0 k l0 (⟨#[]⟩ : ByteArray) 0) = some r := h
  clear h
  have H' := Aside0.mk H
  clear H
  go_enter Try.func33, Try.ntmps33
  go_wp2
  go_loopg [3, 4] k (fun kq v3 v4 w' => ∃ (x3_1 : ByteArray) (x4_1 : Int), v3 = .string x3_1 ∧ v4 = .int .i64 x4_1 ∧ Aside0 (headgateref01_All.l0 kq l0 x3_1 x4_1 = some r) ∧ Aside0 (kq ≤ k) ∧ Aside0 (Below w.heap.size w w'))
  case atStart => exact ⟨((⟨#[]⟩ : ByteArray)), (0), (by first | rfl | (simp; done) | (simp [*]; done)), (by first | rfl | (simp; done) | (simp [*]; done)), H', ⟨Nat.le_refl _⟩, ⟨by repeat (first | (with_reducible first | exact HB.out | apply below_alloc | apply pw_below_drewN | apply below_drew1) | exact HB.out)⟩⟩
  case round =>
    clear H'
    obtain ⟨x3_1, x4_1, rfl, rfl, HA, HK1, HB⟩ := hrel
    cases gk with
    | zero => exact absurd HA.out (by simp [headgateref01_All.l0])
    | succ k1 =>
      have H := HA.out
      clear HA
      simp only [headgateref01_All.l0] at H
      by_cases c2 : x4_1 < (l0.length : Int)
      · rw [if_pos c2] at H
        have c2b0 : decide (x4_1 < (l0.length : Int)) = true := decide_eq_true c2
        clear c2
        by_cases c3 : 0 ≤ x4_1
        · rw [if_pos c3] at H
          have c3b0 : decide (0 ≤ x4_1) = true := decide_eq_true c3
          clear c3
          replace H := Option.bind_eq_some_iff.mp H
          obtain ⟨t321, A40, H⟩ := H
          replace H : (if x3_1.size + t321.size ≤ 9223372036854775807 then (headgateref01_All.l0 k1 l0 (x3_1 ++ t321) (wrap64 (x4_1 + 1))) else (none)) = some r := H
          have A4 := Aside0.mk A40
          clear A40
          by_cases c5 : x3_1.size + t321.size ≤ 9223372036854775807
          · rw [if_pos c5] at H
            have c5b0 := eq_true c5
            have c5b1 : decide (x3_1.size + t321.size ≤ 9223372036854775807) = true := decide_eq_true c5
            try have c5b2 : (9223372036854775807 < x3_1.size + t321.size) = False := eq_false (Nat.not_lt.2 c5)
            have H' := Aside0.mk H
            clear H
            have p320 : 0 ≤ (x4_1 : Int) := of_decide_eq_true (by first | (with_reducible assumption) | assumption)
            have q320 : x4_1 < (l0.length : Int) := of_decide_eq_true (by first | (with_reducible assumption) | assumption)
            obtain ⟨ad320, e320, hx320_0⟩ := Kd.at_int HR0.out x4_1 p320 q320
            cases e320
            replace hx320_0 := (HB.out.cell (World.block_lt_of_cell? w _ hx320_0)).trans hx320_0
            replace p320 := eq_true p320
            replace q320 := eq_true q320
            go_wp2_with (first | ((with_reducible refine gate_callee (f := 45) rfl ?_); refine goesL_ (some 16) rfl rfl Try.func45 (by kernel_rfl) rfl #[.int .i64 (rd l0 x4_1)] rfl (by (try simp only [List.map_toArray, List.map_cons, List.map_nil]); first | done | rfl | (simp only [List.length_drop, List.length_take]; rfl)) ?_; (with_reducible refine (headgateref01_Put.calls k1 (rd l0 x4_1) t321 _ A4.out).mono ?_); rintro e w6 ⟨rfl, hb⟩; refine ⟨_, rfl, ?_⟩; have n0_ := Aside0.mk (below_step (by repeat (first | (with_reducible first | exact HB.out | apply below_alloc | apply pw_below_drewN | apply below_drew1) | exact HB.out)) hb); clear HB; have HB := n0_; clear n0_; (try clear hb); (try clear hb2); (try clear hk); (try clear hi)))
            go_roundg k1
            case measure => have := HK1.out; omega
            case rel => exact ⟨(x3_1 ++ t321), (wrap64 (x4_1 + 1)), (by first | rfl | (simp; done) | (simp [*]; done)), (by first | rfl | (simp; done) | (simp [*]; done)), H', ⟨by have := HK1.out; omega⟩, ⟨by repeat (first | (with_reducible first | exact HB.out | apply below_alloc | apply pw_below_drewN | apply below_drew1) | exact HB.out)⟩⟩
          · rw [if_neg c5] at H
            exact absurd H (by simp)
        · rw [if_neg c3] at H
          exact absurd H (by simp)
      · rw [if_neg c2] at H
        have c2b0 : decide (x4_1 < (l0.length : Int)) = false := decide_eq_false c2
        clear c2
        obtain rfl := Option.some.inj H
        go_wp2
        go_ret
        exact ⟨by first | rfl | (simp [errW_none, errW_some] <;> rfl) | (simp [*, errW_none, errW_some] <;> rfl), by repeat (first | (with_reducible first | exact HB.out | apply below_alloc | apply pw_below_drewN | apply below_drew1) | exact HB.out)⟩

/-! ### headgateref12_Encode: function 20 -/
def headgateref12_Encode.f (k : Nat) (a0_0 : Int) (a0_1 : Int) (a0_2 : Int) : Option (ByteArray × Int) := (headgateref12_May.f k a0_0 a0_1 a0_2).bind fun t323 => (if t323 = true then ((headgateref01_All.f k (([a0_0, a0_1, a0_2] : List Int))).bind fun t327 => (some (t327, 0))) else (some ((⟨#[]⟩ : ByteArray), 1)))
theorem headgateref12_Encode.mono : ∀ a0 a1 a2 k, LeO (headgateref12_Encode.f k a0 a1 a2) (headgateref12_Encode.f (k + 1) a0 a1 a2) := by
  intro a0 a1 a2 k
  unfold headgateref12_Encode.f
  repeat' first
      | (with_reducible exact headgateref01_All.mono _ _)
      | (with_reducible exact headgateref12_May.mono _ _ _ _)
      | (with_reducible exact LeO.refl _)
      | (with_reducible exact LeO.none _)
      | (with_reducible refine LeO.ite ?_ ?_)
      | (with_reducible refine LeO.bind ?_ (fun _ => ?_))
      | exact headgateref01_All.mono _ _
      | exact headgateref12_May.mono _ _ _ _
      | exact LeO.none _
      | refine LeO.ite ?_ ?_
      | refine LeO.bind ?_ (fun _ => ?_)
set_option maxHeartbeats 8000000 in
set_option maxRecDepth 100000 in
theorem headgateref12_Encode.calls (k : Nat) (a0_0 : Int) (a0_1 : Int) (a0_2 : Int) (r1 : ByteArray) (r2 : Int) (w : World) (h : headgateref12_Encode.f k a0_0 a0_1 a0_2 = some (r1, r2)) :
    Calls Try.prog 20 #[.agg #[.int .i64 a0_0, .int .i64 a0_1, .int .i64 a0_2]] w fun e w' => e = .returned (.tuple #[.string r1, .int .i64 r2]) ∧ Below w.heap.size w w' := by
  have hu24 := Try.underlying24
  have HB := Aside0.mk (Below.refl w.heap.size w)
  have H : ((headgateref12_May.f k a0_0 a0_1 a0_2).bind fun t323 => (if t323 = true then ((headgateref01_All.f k (([a0_0, a0_1, a0_2] : List Int))).bind fun t327 => (some (t327, 0))) else (some ((⟨#[]⟩ : ByteArray), 1)))) = some (r1, r2) := h
  clear h
  replace H := Option.bind_eq_some_iff.mp H
  obtain ⟨t323, A20, H⟩ := H
  replace H : (if t323 = true then ((headgateref01_All.f k (([a0_0, a0_1, a0_2] : List Int))).bind fun t327 => (some (t327, 0))) else (some ((⟨#[]⟩ : ByteArray), 1))) = some (r1, r2) := H
  have A2 := Aside0.mk A20
  clear A20
  by_cases c3 : t323 = true
  · subst c3
    have H1 : ((headgateref01_All.f k (([a0_0, a0_1, a0_2] : List Int))).bind fun t327 => (some (t327, 0))) = some (r1, r2) := by rw [if_pos rfl] at H; exact H
    clear H
    have H := H1
    clear H1
    obtain ⟨y324, hy324⟩ : ∃ y_ : List Int, y_ = (([a0_0, a0_1, a0_2] : List Int)) := ⟨_, rfl⟩
    replace H : ((headgateref01_All.f k y324).bind fun t327 => (some (t327, 0))) = some (r1, r2) := by first | (rw [hy324]; with_reducible exact H) | (have H2_ := (Option.bind_some _ _).symm.trans H; rw [hy324]; with_reducible exact H2_) | (have H2_ := (Option.bind_some _ _).symm.trans H; with_reducible exact H2_) | with_reducible exact H | (rw [hy324]; exact H) | exact H
    have Ny324 := Aside0.mk hy324
    clear hy324
    replace H := Option.bind_eq_some_iff.mp H
    obtain ⟨t327, A40, H⟩ := H
    replace H : (some (t327, 0)) = some (r1, r2) := H
    have A4 := Aside0.mk A40
    clear A40
    simp only [Option.some.injEq, Prod.mk.injEq] at H
    obtain ⟨rfl, rfl⟩ := H
    go_enter Try.func20, Try.ntmps20
    go_wp2_with (first | ((with_reducible refine gate_dst (N := 1) rfl ?_); refine box_event ?hg (N := 1) ?hd (cs := #[.int .i64 a0_0, .int .i64 a0_1, .int .i64 a0_2]) (t := 24) ?hr ?_; (case hd => rfl); (case hg => rfl); (case hr => first | (go_simp; done) | (go_simp; rfl)); intro gb322 hg w5 hbox hb; have n0_ := Aside0.mk (below_step (by repeat (first | (with_reducible first | exact HB.out | apply below_alloc | apply pw_below_drewN | apply below_drew1) | exact HB.out)) hb); have n1_ := Aside0.mk (hbox); have n2_ := Aside0.mk ((by rw [hg]; exact (below_size (by repeat (first | (with_reducible first | exact HB.out | apply below_alloc | apply pw_below_drewN | apply below_drew1) | exact HB.out))) : w.heap.size ≤ gb322)); have n3_ := Aside0.mk ((by rw [hg]; exact (below_size (by repeat (first | (with_reducible first | exact HB.out | apply below_alloc | apply pw_below_drewN | apply below_drew1) | exact HB.out))) : w.heap.size ≤ gb322)); clear HB; have HB := n0_; have BK322 := n1_; have GW322 := n2_; have GE322 := n3_; clear n0_ n1_ n2_ n3_; clear hb hbox hg; have hcz6_0 : w5.cell? ⟨gb322, 0, none⟩ = some (.int .i64 a0_0) := (blk_cell BK322.out 0).trans rfl; have hcz6_1 : w5.cell? ⟨gb322, 1, none⟩ = some (.int .i64 a0_1) := (blk_cell BK322.out 1).trans rfl; have hcz6_2 : w5.cell? ⟨gb322, 2, none⟩ = some (.int .i64 a0_2) := (blk_cell BK322.out 2).trans rfl; have hfz6_0 := blk_frozen BK322.out 0; have hfz6_1 := blk_frozen BK322.out 1; have hfz6_2 := blk_frozen BK322.out 2) | ((with_reducible refine gate_callee (f := 28) rfl ?_); refine goesL_ (some 5) rfl rfl Try.func28 (by kernel_rfl) rfl #[.agg #[.int .i64 a0_0, .int .i64 a0_1, .int .i64 a0_2]] rfl (by (try simp only [List.map_toArray, List.map_cons, List.map_nil]); first | done | rfl | (simp only [List.length_drop, List.length_take]; rfl)) ?_; (with_reducible refine (headgateref12_May.calls k a0_0 a0_1 a0_2 true _ A2.out).mono ?_); rintro e w7 ⟨rfl, hb⟩; refine ⟨_, rfl, ?_⟩; have n0_ := Aside0.mk (blk_below (g := gb322) (o := .cells #[.int .i64 a0_0, .int .i64 a0_1, .int .i64 a0_2] 24 (0, 0)) (by (with_reducible repeat (first | refine blk_drewN ?_ _ | refine blk_drew ?_ | refine blk_alloc ?_ _)); exact BK322.out) hb); have n1_ := Aside0.mk (below_step (by repeat (first | (with_reducible first | exact HB.out | apply below_alloc | apply pw_below_drewN | apply below_drew1 | refine below_set ?_ GE322.out) | exact HB.out)) hb); clear BK322; clear HB; have BK322 := n0_; have HB := n1_; clear n0_ n1_; (try clear hb); (try clear hb2); (try clear hk); (try clear hi); have hcz8_0 : w7.cell? ⟨gb322, 0, none⟩ = some (.int .i64 a0_0) := (blk_cell BK322.out 0).trans rfl; have hcz8_1 : w7.cell? ⟨gb322, 1, none⟩ = some (.int .i64 a0_1) := (blk_cell BK322.out 1).trans rfl; have hcz8_2 : w7.cell? ⟨gb322, 2, none⟩ = some (.int .i64 a0_2) := (blk_cell BK322.out 2).trans rfl; have hfz8_0 := blk_frozen BK322.out 0; have hfz8_1 := blk_frozen BK322.out 1; have hfz8_2 := blk_frozen BK322.out 2) | ((with_reducible refine gate_dst (N := 13) rfl ?_); refine Kd.R_lit (Kd.int .i64) _ 3 ?hg (N := 13) ?hd (xs := ([a0_0, a0_1, a0_2] : List Int)) (inner := [.int .i64 a0_0, .int .i64 a0_1, .int .i64 a0_2]) (ok := fun _ => True) (okp := fun _ => True) ?hr ?hp (fun _ hk => hk) trivial (Below.refl _ _) (Nat.le_refl _) (by simp) ?_; (case hd => rfl); (case hg => rfl); (case hr => first | (go_simp; done) | (go_simp; rfl)); (case hp => exact (Reps.one (show Kd.M (Kd.int .i64) _ _ _ a0_0 [.int .i64 a0_0] from rfl) (Reps.one (show Kd.M (Kd.int .i64) _ _ _ a0_1 [.int .i64 a0_1] from rfl) (Reps.one (show Kd.M (Kd.int .i64) _ _ _ a0_2 [.int .i64 a0_2] from rfl) (Reps.none _ _))))); intro v325 w9 ho10 hb hg_ hnew_; clear hg_ hnew_; (first | rw [← Ny324.out] at ho10 | (simp only [Int.reduceToNat] at ho10; rw [← Ny324.out] at ho10)); have n0_ := Aside0.mk (Kd.R_lower ho10 (below_size (by repeat (first | (with_reducible first | exact HB.out | apply below_alloc | apply pw_below_drewN | apply below_drew1 | refine below_set ?_ GE322.out) | exact HB.out)))); have n1_ := Aside0.mk (blk_below (g := gb322) (o := .cells #[.int .i64 a0_0, .int .i64 a0_1, .int .i64 a0_2] 24 (0, 0)) (by (with_reducible repeat (first | refine blk_drewN ?_ _ | refine blk_drew ?_ | refine blk_alloc ?_ _)); exact BK322.out) hb); have n2_ := Aside0.mk (below_step (by repeat (first | (with_reducible first | exact HB.out | apply below_alloc | apply pw_below_drewN | apply below_drew1 | refine below_set ?_ GE322.out) | exact HB.out)) hb); clear BK322; clear HB; have HO326 := n0_; have BK322 := n1_; have HB := n2_; clear n0_ n1_ n2_; clear hb ho10; obtain ⟨Ao11, co11, eo11⟩ := Kd.R_slice HO326.out; subst eo11) | ((with_reducible refine gate_callee (f := 33) rfl ?_); refine goesL_ (some 14) rfl rfl Try.func33 (by kernel_rfl) rfl #[.slice Ao11 y324.length co11] rfl (by (try simp only [List.map_toArray, List.map_cons, List.map_nil]); first | done | rfl | (simp only [List.length_drop, List.length_take]; rfl)) ?_; (with_reducible refine (headgateref01_All.calls k _ _ y324 t327 _ ?side1 ?side2 A4.out).mono ?_); (case side1 => repeat (first | exact (Kd.R_reads' HO326.out).2.2 | (with_reducible refine Kd.C_alloc ?_ _) | (with_reducible refine Kd.C_drewN ?_ _) | (with_reducible refine Kd.C_drew ?_))); (case side2 => exact (Kd.R_reads' HO326.out).2.1); rintro e w12 ⟨rfl, hb⟩; refine ⟨_, rfl, ?_⟩; have n0_ := Aside0.mk (Kd.R_below (by (with_reducible repeat (first | apply Kd.R_alloc | apply Kd.R_drewN | apply Kd.R_drew)); exact HO326.out) hb); have n1_ := Aside0.mk (blk_below (g := gb322) (o := .cells #[.int .i64 a0_0, .int .i64 a0_1, .int .i64 a0_2] 24 (0, 0)) (by (with_reducible repeat (first | refine blk_drewN ?_ _ | refine blk_drew ?_ | refine blk_alloc ?_ _)); exact BK322.out) hb); have n2_ := Aside0.mk (below_step (by repeat (first | (with_reducible first | exact HB.out | apply below_alloc | apply pw_below_drewN | apply below_drew1 | refine below_set ?_ GE322.out) | exact HB.out)) hb); clear HO326; clear BK322; clear HB; have HO326 := n0_; have BK322 := n1_; have HB := n2_; clear n0_ n1_ n2_; (try clear hb); (try clear hb2); (try clear hk); (try clear hi)))
    go_ret2
    exact ⟨by first | rfl | (simp [errW_none, errW_some] <;> rfl) | (simp [*, errW_none, errW_some] <;> rfl), by repeat (first | (with_reducible first | exact HB.out | apply below_alloc | apply pw_below_drewN | apply below_drew1 | refine below_set ?_ GE322.out) | exact HB.out)⟩
  · replace c3 := Bool.eq_false_iff.mpr c3
    subst c3
    have H1 : (some ((⟨#[]⟩ : ByteArray), 1)) = some (r1, r2) := by rw [if_neg (show ¬ (false = true) by decide)] at H; exact H
    clear H
    have H := H1
    clear H1
    simp only [Option.some.injEq, Prod.mk.injEq] at H
    obtain ⟨rfl, rfl⟩ := H
    go_enter Try.func20, Try.ntmps20
    go_wp2_with (first | ((with_reducible refine gate_dst (N := 1) rfl ?_); refine box_event ?hg (N := 1) ?hd (cs := #[.int .i64 a0_0, .int .i64 a0_1, .int .i64 a0_2]) (t := 24) ?hr ?_; (case hd => rfl); (case hg => rfl); (case hr => first | (go_simp; done) | (go_simp; rfl)); intro gb322 hg w13 hbox hb; have n0_ := Aside0.mk (below_step (by repeat (first | (with_reducible first | exact HB.out | apply below_alloc | apply pw_below_drewN | apply below_drew1) | exact HB.out)) hb); have n1_ := Aside0.mk (hbox); have n2_ := Aside0.mk ((by rw [hg]; exact (below_size (by repeat (first | (with_reducible first | exact HB.out | apply below_alloc | apply pw_below_drewN | apply below_drew1) | exact HB.out))) : w.heap.size ≤ gb322)); have n3_ := Aside0.mk ((by rw [hg]; exact (below_size (by repeat (first | (with_reducible first | exact HB.out | apply below_alloc | apply pw_below_drewN | apply below_drew1) | exact HB.out))) : w.heap.size ≤ gb322)); clear HB; have HB := n0_; have BK322 := n1_; have GW322 := n2_; have GE322 := n3_; clear n0_ n1_ n2_ n3_; clear hb hbox hg; have hcz14_0 : w13.cell? ⟨gb322, 0, none⟩ = some (.int .i64 a0_0) := (blk_cell BK322.out 0).trans rfl; have hcz14_1 : w13.cell? ⟨gb322, 1, none⟩ = some (.int .i64 a0_1) := (blk_cell BK322.out 1).trans rfl; have hcz14_2 : w13.cell? ⟨gb322, 2, none⟩ = some (.int .i64 a0_2) := (blk_cell BK322.out 2).trans rfl; have hfz14_0 := blk_frozen BK322.out 0; have hfz14_1 := blk_frozen BK322.out 1; have hfz14_2 := blk_frozen BK322.out 2) | ((with_reducible refine gate_callee (f := 28) rfl ?_); refine goesL_ (some 5) rfl rfl Try.func28 (by kernel_rfl) rfl #[.agg #[.int .i64 a0_0, .int .i64 a0_1, .int .i64 a0_2]] rfl (by (try simp only [List.map_toArray, List.map_cons, List.map_nil]); first | done | rfl | (simp only [List.length_drop, List.length_take]; rfl)) ?_; (with_reducible refine (headgateref12_May.calls k a0_0 a0_1 a0_2 false _ A2.out).mono ?_); rintro e w15 ⟨rfl, hb⟩; refine ⟨_, rfl, ?_⟩; have n0_ := Aside0.mk (blk_below (g := gb322) (o := .cells #[.int .i64 a0_0, .int .i64 a0_1, .int .i64 a0_2] 24 (0, 0)) (by (with_reducible repeat (first | refine blk_drewN ?_ _ | refine blk_drew ?_ | refine blk_alloc ?_ _)); exact BK322.out) hb); have n1_ := Aside0.mk (below_step (by repeat (first | (with_reducible first | exact HB.out | apply below_alloc | apply pw_below_drewN | apply below_drew1 | refine below_set ?_ GE322.out) | exact HB.out)) hb); clear BK322; clear HB; have BK322 := n0_; have HB := n1_; clear n0_ n1_; (try clear hb); (try clear hb2); (try clear hk); (try clear hi)))
    go_ret2
    exact ⟨by first | rfl | (simp [errW_none, errW_some] <;> rfl) | (simp [*, errW_none, errW_some] <;> rfl), by repeat (first | (with_reducible first | exact HB.out | apply below_alloc | apply pw_below_drewN | apply below_drew1 | refine below_set ?_ GE322.out) | exact HB.out)⟩

/-! ### varint_Take: function 46 -/
theorem varint_Take.scope {P : Program} {a : Act} {w : World} {Q : Exit → Act → World → Prop} {c rest : Code} (l : Nat) (J : Act → World → Prop) (μ : Act → World → Nat) (hf : findLabel c l = some (Code.seq Code.skip rest))
    (first : (∀ a w, J a w → rest.wp P (Exit.jump l J Q) a w) → c.wp P (Exit.jump l J Q) a w)
    (pass : ∀ a w, J a w → rest.wp P (Exit.jump l (fun a' w' => J a' w' ∧ μ a' w' < μ a w) Q) a w) : (Code.scope c).wp P Q a w :=
  wp_scope_jumps l J μ hf (first fun a w h => wp_mono (pass a w h) fun e a' w' hq => by
    cases e with
    | goto l' => exact ⟨hq.1, hq.2.1⟩
    | _ => exact hq) fun a w h => wp_seq (wp_skip (pass a w h))
def varint_Take.f (a0 : ByteArray) : Option (Int × ByteArray × Int) := if a0.size ≤ 9223372036854775807 then some (Vm.takeR (Vm.dec a0.data.toList)) else none
/-- What is left behind j bytes that are 128 or more, and come to u. -/
def varint_Take.left (l : List UInt8) (j u : Nat) : Option (Int × List UInt8) :=
  if j = 10 then none else (Vm.dec1 (9 - j) (decide (j = 0)) (l.drop j)).map fun p => (Vm.uz (u + 128 ^ j * p.1), p.2)
theorem varint_Take.left_end (l : List UInt8) (j u : Nat) (h : l.length ≤ j) : varint_Take.left l j u = none := by
  unfold varint_Take.left
  split
  · rfl
  · rw [List.drop_of_length_le h]
    cases 9 - j <;> simp [Vm.dec1]
theorem varint_Take.left_on (l : List UInt8) (j u : Nat) (hj : j < 10) (h : j < l.length) (c : Nat) (hc : (l.getD j 0).toNat = c) (hc1 : 128 ≤ c) (u' : Nat) (hu : j < 9 → u' = u + 128 ^ j * (c % 128)) :
    varint_Take.left l j u = varint_Take.left l (j + 1) u' := by
  have hlt := (l.getD j 0).toNat_lt
  have hd : l.drop j = l.getD j 0 :: l.drop (j + 1) := by
    rw [List.drop_eq_getElem_cons h, List.getD_eq_getElem?_getD, List.getElem?_eq_getElem h]
    rfl
  unfold varint_Take.left
  rw [if_neg (by omega), hd]
  rcases Nat.lt_or_ge j 9 with h9 | h9
  · rw [if_neg (by omega), show 9 - j = (9 - (j + 1)) + 1 by omega]
    simp only [Vm.dec1]
    rw [if_neg (by rw [hc]; omega)]
    simp only [Option.map_map]
    rw [show decide (j + 1 = 0) = false by simp]
    refine congrArg (fun g => Option.map g (Vm.dec1 (9 - (j + 1)) false (l.drop (j + 1)))) ?_
    funext p
    simp only [Function.comp]
    rw [hu h9, Nat.pow_succ, hc, show c % 128 = c - 128 by omega]
    have : u + 128 ^ j * (p.1 * 128 + (c - 128)) = u + 128 ^ j * (c - 128) + 128 ^ j * 128 * p.1 := by
      rw [Nat.mul_add, Nat.mul_assoc, Nat.mul_comm 128 p.1]
      omega
    rw [this]
  · obtain rfl : j = 9 := by omega
    rw [if_pos rfl]
    simp only [Nat.sub_self, Vm.dec1]
    rw [if_neg (by rw [hc]; omega)]
    rfl
theorem varint_Take.left_last (l : List UInt8) (j u : Nat) (hj : j < 10) (h : j < l.length) (c : Nat) (hc : (l.getD j 0).toNat = c) (hc1 : c < 128) :
    varint_Take.left l j u = if (0 < j ∧ c = 0) ∨ (j = 9 ∧ 1 < c) then none else some (Vm.uz (u + 128 ^ j * c), l.drop (j + 1)) := by
  have hd : l.drop j = l.getD j 0 :: l.drop (j + 1) := by
    rw [List.drop_eq_getElem_cons h, List.getD_eq_getElem?_getD, List.getElem?_eq_getElem h]
    rfl
  unfold varint_Take.left
  rw [if_neg (by omega), hd]
  rcases Nat.lt_or_ge j 9 with h9 | h9
  · rw [show 9 - j = (9 - (j + 1)) + 1 by omega]
    simp only [Vm.dec1]
    rw [hc, if_pos hc1]
    by_cases hb : 0 < j ∧ c = 0
    · rw [if_pos (by simp; omega), if_pos (.inl hb)]
      rfl
    · rw [if_neg (by simp; omega), if_neg (by omega)]
      rfl
  · obtain rfl : j = 9 := by omega
    simp only [Nat.sub_self, Vm.dec1]
    rw [hc, if_pos hc1]
    by_cases hb : c = 0 ∨ 1 < c
    · rw [if_pos (by exact hb.imp_left fun hb => ⟨rfl, hb⟩), if_pos (hb.imp (fun hb => ⟨by decide, hb⟩) (fun hb => ⟨trivial, hb⟩))]
      rfl
    · rw [if_neg (by rintro (⟨_, h⟩ | h) <;> omega), if_neg (by omega)]
      rfl
theorem varint_Take.joined (j u c : Nat) (hj : j < 10) (hu : u < 128 ^ j) (hc : c < 256) : ∃ u' : Nat, Go.bits .or .u64 (u : Int) (IntKind.u64.wrap (IntKind.u64.wrap (Go.bits .and .u8 (c : Int) 127) * 2 ^ (7 * j))) = (u' : Int) ∧ ((j < 9 ∨ c ≤ 1) → u' = u + 128 ^ j * (c % 128)) := by
  have h1 : Go.bits .and .u8 (c : Int) 127 = ((c % 128 : Nat) : Int) := by
    have := bits_mask .u8 8 (by decide) wraps_u8 7 (by decide) (c : Int) (by omega) (by omega)
    rw [show (127 : Int) = 2 ^ 7 - 1 by decide, this]
    omega
  have h2 : IntKind.u64.wrap ((c % 128 : Nat) : Int) = ((c % 128 : Nat) : Int) := by rw [IntKind.wrap_u64]; omega
  have h3 : ((2 : Int) ^ (7 * j)) = ((128 ^ j : Nat) : Int) := by
    rw [Int.pow_mul]
    simp
  rw [h1, h2, h3]
  have h4 : ((c % 128 : Nat) : Int) * ((128 ^ j : Nat) : Int) = ((128 ^ j * (c % 128) : Nat) : Int) := by rw [Nat.mul_comm]; exact (Int.natCast_mul _ _).symm
  rw [h4]
  obtain ⟨x, hx⟩ : ∃ x : Nat, x = 128 ^ j * (c % 128) := ⟨_, rfl⟩
  rw [← hx]
  have h5 : IntKind.u64.wrap (x : Int) = ((x % 18446744073709551616 : Nat) : Int) := by rw [IntKind.wrap_u64]; omega
  have hp : 128 ^ j ≤ 128 ^ 9 := Nat.pow_le_pow_right (by decide) (by omega)
  rw [h5, (bits_nat .u64 64 (by decide) (fun n h0 h1 => by rw [IntKind.wrap_u64]; omega) u (x % 18446744073709551616) (by omega) (by omega)).2]
  refine ⟨_, rfl, fun hh => ?_⟩
  have hlt : x < 18446744073709551616 := by
    rcases hh with hh | hh
    · have hp8 : 128 ^ j ≤ 128 ^ 8 := Nat.pow_le_pow_right (by decide) (by omega)
      have : x ≤ 128 ^ 8 * 127 := by rw [hx]; exact Nat.mul_le_mul hp8 (by omega)
      omega
    · have : x ≤ 128 ^ 9 * 1 := by rw [hx]; exact Nat.mul_le_mul hp (by omega)
      omega
  rw [Nat.mod_eq_of_lt hlt, hx]
  have h7 : (128 : Nat) ^ j = 2 ^ (7 * j) := by rw [Nat.pow_mul]
  rw [h7] at hu ⊢
  rw [Nat.or_comm, ← Nat.two_pow_add_eq_or_of_lt hu]
  omega
theorem varint_Take.uz_eq (u : Nat) (hu : u < 18446744073709551616) : Go.bits .xor .i64 (IntKind.i64.wrap ((u : Int) / 2)) (IntKind.i64.wrap (-(IntKind.i64.wrap (Go.bits .and .u64 (u : Int) 1)))) = Vm.uz u := by
  have h1 : Go.bits .and .u64 (u : Int) 1 = ((u % 2 : Nat) : Int) := by
    have := bits_mask .u64 64 (by decide) (fun n h0 h1 => by rw [IntKind.wrap_u64]; omega) 1 (by decide) (u : Int) (by omega) (by omega)
    rw [show (1 : Int) = 2 ^ 1 - 1 by decide, this]
    omega
  have h2 : IntKind.i64.wrap ((u : Int) / 2) = ((u / 2 : Nat) : Int) := by rw [IntKind.wrap_i64]; omega
  have h3 : IntKind.i64.wrap ((u % 2 : Nat) : Int) = ((u % 2 : Nat) : Int) := by rw [IntKind.wrap_i64]; omega
  rw [h1, h2, h3]
  unfold Vm.uz
  by_cases hb : u % 2 = 1
  · rw [if_pos hb, hb]
    have h4 : IntKind.i64.wrap (-((1 : Nat) : Int)) = -1 := by rw [IntKind.wrap_i64]; omega
    rw [h4]
    have e : BitVec.ofInt 64 ((u / 2 : Nat) : Int) ^^^ BitVec.ofInt 64 (-1) = ~~~ BitVec.ofNat 64 (u / 2) := by
      rw [show BitVec.ofInt 64 (-1) = BitVec.allOnes 64 by decide, BitVec.xor_allOnes, BitVec.ofInt_natCast]
    unfold Go.bits
    show IntKind.i64.wrap ((BitVec.ofInt 64 ((u / 2 : Nat) : Int) ^^^ BitVec.ofInt 64 (-1)).toNat : Int) = _
    rw [e, BitVec.toNat_not, BitVec.toNat_ofNat, IntKind.wrap_i64]
    omega
  · rw [if_neg hb, show u % 2 = 0 by omega]
    have h4 : IntKind.i64.wrap (-((0 : Nat) : Int)) = 0 := by rw [IntKind.wrap_i64]; omega
    rw [h4]
    have e : BitVec.ofInt 64 ((u / 2 : Nat) : Int) ^^^ BitVec.ofInt 64 0 = BitVec.ofNat 64 (u / 2) := by rw [BitVec.ofInt_natCast]; simp
    unfold Go.bits
    show IntKind.i64.wrap ((BitVec.ofInt 64 ((u / 2 : Nat) : Int) ^^^ BitVec.ofInt 64 0).toNat : Int) = _
    rw [e, BitVec.toNat_ofNat, IntKind.wrap_i64]
    omega
theorem varint_Take.uz_eq' (u : Nat) (hu : u < 18446744073709551616) : Go.bits .xor .i64 (wrap64 ((u : Int) / 2)) (wrap64 (-(wrap64 (Go.bits .and .u64 (u : Int) 1)))) = Vm.uz u := by
  have h := varint_Take.uz_eq u hu
  rw [IntKind.wrap_i64, IntKind.wrap_i64, IntKind.wrap_i64] at h
  unfold wrap64
  exact h
theorem varint_Take.bad {d : Option (Int × List UInt8)} {r1 : Int} {r2 : ByteArray} {r3 : Int} (h : Vm.takeR d = (r1, r2, r3)) (hd : d = none) : Ending.returned (.tuple #[.int .i64 0, .string ⟨#[]⟩, .int .i64 2]) = .returned (.tuple #[.int .i64 r1, .string r2, .int .i64 r3]) := by
  subst hd
  simp only [Vm.takeR, Prod.mk.injEq] at h
  obtain ⟨rfl, rfl, rfl⟩ := h
  rfl
theorem varint_Take.good {d : Option (Int × List UInt8)} {r1 : Int} {r2 : ByteArray} {r3 n : Int} {s : ByteArray} {l : List UInt8} (h : Vm.takeR d = (r1, r2, r3)) (hd : d = some (n, l)) (hs : s.data.toList = l) : Ending.returned (.tuple #[.int .i64 n, .string s, .int .i64 0]) = .returned (.tuple #[.int .i64 r1, .string r2, .int .i64 r3]) := by
  subst hd
  simp only [Vm.takeR, Prod.mk.injEq] at h
  obtain ⟨rfl, rfl, rfl⟩ := h
  rw [← hs, Vm.bs_data]
set_option maxHeartbeats 8000000 in
set_option maxRecDepth 100000 in
theorem varint_Take.calls (a0 : ByteArray) (r1 : Int) (r2 : ByteArray) (r3 : Int) (w : World) (h : varint_Take.f a0 = some (r1, r2, r3)) :
    Calls Try.prog 46 #[.string a0] w fun e w' => e = .returned (.tuple #[.int .i64 r1, .string r2, .int .i64 r3]) ∧ Drawn0 w w' := by
  unfold varint_Take.f at h
  split at h
  case isFalse => cases h
  rename_i hs
  have hr : Vm.takeR (Vm.dec a0.data.toList) = (r1, r2, r3) := by injection h
  have HR := Lib.hid hr
  have HS := Lib.hid hs
  have hsz : a0.data.toList.length = a0.size := data_length a0
  have HZ := Lib.hid hsz
  clear hr h hs hsz
  go_enter Try.func46, Try.ntmps46
  go_wp2
  refine varint_Take.scope 0 (fun a' w' => w' = w ∧ ∃ (j u : Nat) (x7 x8 x9 x10 x11 x12 x13 x14 x15 x16 x17 x18 x19 x20 x21 x22 x23 x24 x25 x26 x27 x28 x29 x30 : Value), a' = { tmps := #[.string a0, undef, .int .i64 0, .string ⟨#[]⟩, .int .i64 0, .int .u64 (u : Int), .int .i64 (j : Int), x7, x8, x9, x10, x11, x12, x13, x14, x15, x16, x17, x18, x19, x20, x21, x22, x23, x24, x25, x26, x27, x28, x29, x30, undef, undef, undef, undef, undef, undef, undef, undef, undef, undef, undef, undef, undef, undef, undef, undef, undef, undef, undef, undef, undef, undef, undef, undef, undef], defers := [] } ∧ j ≤ 10 ∧ j ≤ a0.size ∧ Aside0 (j < 10 → u < 128 ^ j) ∧ Aside0 (Vm.dec a0.data.toList = varint_Take.left a0.data.toList j u)) (fun a' _ => (10 - intOf (a'.tmps.getD 6 undef)).toNat) rfl ?_ ?_
  · intro hp
    go_wp2
    go_step3
    rename_i K hK
    exact hK _ _ (hp _ _ ⟨rfl, 0, 0, _, _, _, _, _, _, _, _, _, _, _, _, _, _, _, _, _, _, _, _, _, _, _, _, rfl, by omega, by omega, ⟨fun _ => by simp⟩, ⟨by simp [varint_Take.left, Vm.dec]⟩⟩)
  · rintro a w' ⟨rfl, j, u, x7, x8, x9, x10, x11, x12, x13, x14, x15, x16, x17, x18, x19, x20, x21, x22, x23, x24, x25, x26, x27, x28, x29, x30, rfl, hj10, hjs, HU, HD⟩
    by_cases h1 : j = a0.size
    · have hb := Lib.hid (varint_Take.bad HR.out (HD.out.trans (varint_Take.left_end _ _ _ (by rw [HZ.out]; omega))))
      go_wp2
      simp only [Exit.jump]
      go_ret3
      exact ⟨hb.out, Drawn0.refl _⟩
    · have hlt : j < a0.size := by omega
      have h1b : ((j : Int) == (a0.size : Int)) = false := beq_eq_false_iff_ne.mpr (by omega)
      have h1c : (j == a0.size) = false := beq_eq_false_iff_ne.mpr (by omega)
      by_cases h2 : j = 10
      · have hb := Lib.hid (varint_Take.bad HR.out (HD.out.trans (by subst h2; rfl)))
        go_wp2
        simp only [Exit.jump]
        go_ret3
        exact ⟨hb.out, Drawn0.refl _⟩
      · have h2b : ((j : Int) == 10) = false := beq_eq_false_iff_ne.mpr (by omega)
        have hj9 : j ≤ 9 := by omega
        obtain ⟨c, hcq⟩ : ∃ c : Nat, (a0.data.toList.getD j 0).toNat = c := ⟨_, rfl⟩
        have hc256 : c < 256 := by rw [← hcq]; exact (a0.data.toList.getD j 0).toNat_lt
        have hcj : ∀ h : j < a0.size, ((a0[j]'h).toNat : Int) = (c : Int) := fun h => by
          rw [← hcq, List.getD_eq_getElem?_getD, List.getElem?_eq_getElem (by rw [HZ.out]; exact h)]
          rfl
        have HC := Lib.hid hcq
        clear hcq
        obtain ⟨u', hor, hu'⟩ := varint_Take.joined j u c (by omega) (HU.out (by omega)) hc256
        have HU' := Lib.hid hu'
        clear hu' h1 h2
        by_cases h3 : 128 ≤ c
        · have hon := Lib.hid (varint_Take.left_on _ j u (by omega) (by rw [HZ.out]; exact hlt) c HC.out h3 u' (fun h9 => HU'.out (.inl h9)))
          go_wp2
          go_step3
          refine ⟨rfl, ⟨rfl, j + 1, u', _, _, _, _, _, _, _, _, _, _, _, _, _, _, _, _, _, _, _, _, _, _, _, _, rfl, by omega, by omega, ⟨fun h => ?_⟩, ⟨HD.out.trans hon.out⟩⟩, ?_⟩
          · have hu := HU.out (by omega)
            rw [HU'.out (.inl (by omega)), Nat.pow_succ]
            have : 128 ^ j * (c % 128) ≤ 128 ^ j * 127 := Nat.mul_le_mul_left _ (by omega)
            omega
          · simp [intOf]
            omega
        · have hlast := Lib.hid (varint_Take.left_last _ j u (by omega) (by rw [HZ.out]; exact hlt) c HC.out (by omega))
          by_cases h4 : (0 < j ∧ c = 0) ∨ (j = 9 ∧ 1 < c)
          · have hb := Lib.hid (varint_Take.bad HR.out (HD.out.trans (hlast.out.trans (if_pos h4))))
            clear hlast
            rcases h4 with ⟨h4, h5⟩ | ⟨h4, h5⟩
            · subst h5
              go_wp2
              simp only [Exit.jump]
              go_ret3
              exact ⟨hb.out, Drawn0.refl _⟩
            · subst h4
              have h6 : ((c : Int) == 0) = false := beq_eq_false_iff_ne.mpr (by omega)
              go_wp2
              simp only [Exit.jump]
              go_ret3
              exact ⟨hb.out, Drawn0.refl _⟩
          · have hg := Lib.hid (varint_Take.good (s := a0.extract (j + 1) a0.size) HR.out (HD.out.trans (hlast.out.trans (if_neg h4))) (by rw [← HZ.out]; simp [ByteArray.data_extract]; exact List.take_of_length_le (by simp)))
            have hue : u' = u + 128 ^ j * c := by
              have := HU'.out (by omega)
              rwa [show c % 128 = c by omega] at this
            have hul : u' < 18446744073709551616 := by
              have hu := HU.out (by omega)
              rcases Nat.lt_or_ge j 9 with h9 | h9
              · have hp8 : 128 ^ j ≤ 128 ^ 8 := Nat.pow_le_pow_right (by decide) (by omega)
                have : 128 ^ j * c ≤ 128 ^ 8 * 127 := Nat.mul_le_mul hp8 (by omega)
                omega
              · obtain rfl : j = 9 := by omega
                have : 128 ^ 9 * c ≤ 128 ^ 9 * 1 := Nat.mul_le_mul_left _ (by omega)
                omega
            have huz := varint_Take.uz_eq' u' hul
            rw [← hue] at hg
            have hj1 : ((j : Int) + 1).toNat = j + 1 := by omega
            clear hlast hul
            have HUE := Lib.hid hue
            clear hue
            have H4 := Lib.hid h4
            clear h4
            rcases Nat.eq_zero_or_pos j with h5 | h5
            · have h6 : decide (0 < (j : Int)) = false := decide_eq_false (by omega)
              have h7 : decide (1 < (j : Int) + 1) = false := decide_eq_false (by omega)
              have h8 : ((j : Int) + 1 == 10) = false := beq_eq_false_iff_ne.mpr (by omega)
              have H5 := Lib.hid h5
              clear h5
              go_wp2
              go_quiet (fail)
              go_wp2
              simp only [Exit.jump]
              go_ret3
              exact ⟨hg.out, ⟨⟨_, rfl⟩⟩⟩
            · have h6 : ((c : Int) == 0) = false := beq_eq_false_iff_ne.mpr (by have := H4.out; omega)
              by_cases h7 : j = 9
              · have h8 : decide (1 < (c : Int)) = false := decide_eq_false (by have := H4.out; omega)
                have h9 : ((j : Int) + 1 == 10) = true := beq_iff_eq.mpr (by omega)
                have H7 := Lib.hid h7
                clear h7
                go_wp2
                go_quiet (fail)
                go_wp2
                simp only [Exit.jump]
                go_ret3
                exact ⟨hg.out, ⟨⟨_, rfl⟩⟩⟩
              · have h8 : ((j : Int) + 1 == 10) = false := beq_eq_false_iff_ne.mpr (by omega)
                go_wp2
                go_quiet (fail)
                go_wp2
                simp only [Exit.jump]
                go_ret3
                exact ⟨hg.out, ⟨⟨_, rfl⟩⟩⟩

end Go.Proofs.Ytleongigmjhegaa.P
