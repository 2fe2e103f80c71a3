-- Written by wip/mk.py of this repo: the kit's print program, with contracts of our own among its functions (merge.py: Px13).
import Derived.Test.YtikbpjdgihheiaaM0
import Derived.Test.YtikbpjdgihheiaaM1
import Derived.Test.YtikbpjdgihheiaaM3
import Derived.Test.YtikbpjdgihheiaaM4
import Derived.Test.YtikbpjdgihheiaaZz
import Derived.Test.YtikbpjdgihheiaaZr
section
namespace Go.Proofs.Ytikbpjdgihheiaa.P
open Go.RowKit Go.Proofs.YtikbpjdgihheiaaW.PrintWords Go.Proofs.YtikbpjdgihheiaaW.PrintLast Go.Proofs.YtikbpjdgihheiaaW.PrintMore
attribute [local go_sem] max2_int min2_int max_two min_two max_three min_three max_four min_four   -- for this text's walks alone
attribute [local go_sem ↓] Kp.LDAsk_in
attribute [local go_sem] Kp.LDAsk_run
set_option linter.unusedVariables false
set_option linter.unusedSimpArgs false

/-! ### wire_EncodeAsk: function 16 -/
mutual
def wire_EncodeAsk.j0 : Nat → List Int → Bool → Int → Int → Int → Int → Int → Int → Int → Int → Int → Int → Int → Int → Bool → Int → Int → Int → Int → List (S57) → Option (ByteArray × Int)
  | 0, _, _, _, _, _, _, _, _, _, _, _, _, _, _, _, _, _, _, _, _ => none
  | k + 1, x4, x26, x147000, x147001, x147002, x147003, x147004, x147005, x147006, x147007, x147008, x147009, x147010, x147011, x147012, x147013, x147014, x147015, x147016, x147017 => if x26 = true then (some ((⟨#[]⟩ : ByteArray), 1)) else (wire_EncodeAsk.l0 k (([x147000, x147001] : List Int)) x4 (x4.length : Int) 0 x147000 x147001 x147002 x147003 x147004 x147005 x147006 x147007 x147008 x147009 x147010 x147011 x147012 x147013 x147014 x147015 x147016 x147017)
def wire_EncodeAsk.l0 : Nat → List Int → List Int → Int → Int → Int → Int → Int → Int → Int → Int → Int → Int → Int → Int → Int → Int → Bool → Int → Int → Int → Int → List (S57) → Option (ByteArray × Int)
  | 0, _, _, _, _, _, _, _, _, _, _, _, _, _, _, _, _, _, _, _, _, _, _ => none
  | k + 1, x6, x32, x33, x34, x147000, x147001, x147002, x147003, x147004, x147005, x147006, x147007, x147008, x147009, x147010, x147011, x147012, x147013, x147014, x147015, x147016, x147017 => if x34 < x33 then (if 0 ≤ x34 then (if x34 < (x32.length : Int) then (if 2 ≤ (rd x32 x34) then (if (rd x32 x34) ≤ 11 then (if x6.length < 17592186044416 then (wire_EncodeAsk.l0 k (x6 ++ [Kp.fget (rd x32 x34) x147002 x147003 x147004 x147005 x147006 x147007 x147008 x147009 x147010 x147011]) x32 x33 (wrap64 (x34 + 1)) x147000 x147001 (Kp.fset (rd x32 x34) 2 0 x147002) (Kp.fset (rd x32 x34) 3 0 x147003) (Kp.fset (rd x32 x34) 4 0 x147004) (Kp.fset (rd x32 x34) 5 0 x147005) (Kp.fset (rd x32 x34) 6 0 x147006) (Kp.fset (rd x32 x34) 7 0 x147007) (Kp.fset (rd x32 x34) 8 0 x147008) (Kp.fset (rd x32 x34) 9 0 x147009) (Kp.fset (rd x32 x34) 10 0 x147010) (Kp.fset (rd x32 x34) 11 0 x147011) x147012 x147013 x147014 x147015 x147016 x147017) else (none)) else (none)) else (none)) else (none)) else (none)) else ((wire_flagged.f x147000).bind fun t162 => (if t162 = true then (if x147012 = true then (if x6.length < 17592186044416 then (wire_EncodeAsk.j2 k (x6 ++ [1]) x147000 x147001 x147002 x147003 x147004 x147005 x147006 x147007 x147008 x147009 x147010 x147011 false x147013 x147014 x147015 x147016 x147017) else (none)) else (if x6.length < 17592186044416 then (wire_EncodeAsk.j2 k (x6 ++ [0]) x147000 x147001 x147002 x147003 x147004 x147005 x147006 x147007 x147008 x147009 x147010 x147011 false x147013 x147014 x147015 x147016 x147017) else (none))) else (wire_EncodeAsk.j2 k x6 x147000 x147001 x147002 x147003 x147004 x147005 x147006 x147007 x147008 x147009 x147010 x147011 x147012 x147013 x147014 x147015 x147016 x147017)))
def wire_EncodeAsk.j2 : Nat → List Int → Int → Int → Int → Int → Int → Int → Int → Int → Int → Int → Int → Int → Bool → Int → Int → Int → Int → List (S57) → Option (ByteArray × Int)
  | 0, _, _, _, _, _, _, _, _, _, _, _, _, _, _, _, _, _, _, _ => none
  | k + 1, x6, x147000, x147001, x147002, x147003, x147004, x147005, x147006, x147007, x147008, x147009, x147010, x147011, x147012, x147013, x147014, x147015, x147016, x147017 => (varint_PutAll.f x6).bind fun t169 => (if x147000 = 3 then ((batch_Encode.f k x147013 x147014 x147015 x147016 x147017).bind fun bt170 => (if bt170.2 = 0 then ((varint_PutText.f bt170.1).bind fun t172 => (if t169.size + t172.size ≤ 9223372036854775807 then ((wire_within.f x6).bind fun t174 => (if t174 = true then ((wire_bare.f x147000 x147001 x147002 x147003 x147004 x147005 x147006 x147007 x147008 x147009 x147010 x147011 x147012 0 0 0 0 ([] : List (S57))).bind fun t175 => (if t175 = true then (if 0 = 0 then (wire_EncodeAsk.j3 k (t169 ++ t172) (decide ((([] : List (S57)).length : Int) > 0))) else (wire_EncodeAsk.j3 k (t169 ++ t172) true)) else (wire_EncodeAsk.j3 k (t169 ++ t172) true))) else (wire_EncodeAsk.j3 k (t169 ++ t172) true))) else (none))) else (some ((⟨#[]⟩ : ByteArray), bt170.2)))) else ((wire_within.f x6).bind fun t177 => (if t177 = true then ((wire_bare.f x147000 x147001 x147002 x147003 x147004 x147005 x147006 x147007 x147008 x147009 x147010 x147011 x147012 x147013 x147014 x147015 x147016 x147017).bind fun t178 => (if t178 = true then (if x147013 = 0 then (if x147014 = 0 then (if x147015 = 0 then (if x147016 = 0 then (wire_EncodeAsk.j4 k t169 (decide ((x147017.length : Int) > 0))) else (wire_EncodeAsk.j4 k t169 true)) else (wire_EncodeAsk.j4 k t169 true)) else (wire_EncodeAsk.j4 k t169 true)) else (wire_EncodeAsk.j4 k t169 true)) else (wire_EncodeAsk.j4 k t169 true))) else (wire_EncodeAsk.j4 k t169 true))))
def wire_EncodeAsk.j3 : Nat → ByteArray → Bool → Option (ByteArray × Int)
  | 0, _, _ => none
  | k + 1, x10, x112 => if x112 = true then (some ((⟨#[]⟩ : ByteArray), 1)) else (some (x10, 0))
def wire_EncodeAsk.j4 : Nat → ByteArray → Bool → Option (ByteArray × Int)
  | 0, _, _ => none
  | k + 1, x10, x112 => if x112 = true then (some ((⟨#[]⟩ : ByteArray), 1)) else (some (x10, 0))
end
def wire_EncodeAsk.f (k : Nat) (a0_0 : Int) (a0_1 : Int) (a0_2 : Int) (a0_3 : Int) (a0_4 : Int) (a0_5 : Int) (a0_6 : Int) (a0_7 : Int) (a0_8 : Int) (a0_9 : Int) (a0_10 : Int) (a0_11 : Int) (a0_12 : Bool) (a0_13 : Int) (a0_14 : Int) (a0_15 : Int) (a0_16 : Int) (l0_17 : List (S57)) : Option (ByteArray × Int) := (wire_fields.f a0_0).bind fun bt147 => (if bt147.2 = true then ((wire_within.f (([a0_1] : List Int))).bind fun t154 => (wire_EncodeAsk.j0 k bt147.1 (!t154) a0_0 a0_1 a0_2 a0_3 a0_4 a0_5 a0_6 a0_7 a0_8 a0_9 a0_10 a0_11 a0_12 a0_13 a0_14 a0_15 a0_16 l0_17)) else (wire_EncodeAsk.j0 k bt147.1 true a0_0 a0_1 a0_2 a0_3 a0_4 a0_5 a0_6 a0_7 a0_8 a0_9 a0_10 a0_11 a0_12 a0_13 a0_14 a0_15 a0_16 l0_17))
set_option maxHeartbeats 8000000 in
set_option maxRecDepth 100000 in
theorem wire_EncodeAsk.calls (k : Nat) (a0_0 : Int) (a0_1 : Int) (a0_2 : Int) (a0_3 : Int) (a0_4 : Int) (a0_5 : Int) (a0_6 : Int) (a0_7 : Int) (a0_8 : Int) (a0_9 : Int) (a0_10 : Int) (a0_11 : Int) (a0_12 : Bool) (a0_13 : Int) (a0_14 : Int) (a0_15 : Int) (a0_16 : Int) (A0_17 : Option Addr) (c0_17 : Nat) (l0_17 : List (S57)) (r1 : ByteArray) (r2 : Int) (w : World) (hr0_17 : Kd.C k57 w A0_17 l0_17.length l0_17) (hc0_17 : l0_17.length ≤ c0_17) (h : wire_EncodeAsk.f k a0_0 a0_1 a0_2 a0_3 a0_4 a0_5 a0_6 a0_7 a0_8 a0_9 a0_10 a0_11 a0_12 a0_13 a0_14 a0_15 a0_16 l0_17 = some (r1, r2)) :
    Calls Try.prog 16 #[.agg #[.int .i64 a0_0, .int .i64 a0_1, .int .i64 a0_2, .int .i64 a0_3, .int .i64 a0_4, .int .i64 a0_5, .int .i64 a0_6, .int .i64 a0_7, .int .i64 a0_8, .int .i64 a0_9, .int .i64 a0_10, .int .i64 a0_11, .bool a0_12, .int .i64 a0_13, .int .i64 a0_14, .int .i64 a0_15, .int .i64 a0_16, .slice A0_17 l0_17.length c0_17]] w fun e w' => e = .returned (.tuple #[.string r1, .int .i64 r2]) ∧ Below w.heap.size w w' := by
 have hu43 := Try.underlying43
 have hu41 := Try.underlying41
 have HR0_17 := Aside0.mk hr0_17
 have HC0_17 := Aside0.mk hc0_17
 clear hr0_17 hc0_17
 have HB := Aside0.mk (Below.refl w.heap.size w)
 have H : ((wire_fields.f a0_0).bind fun bt147 => (if bt147.2 = true then ((wire_within.f (([a0_1] : List Int))).bind fun t154 => (wire_EncodeAsk.j0 k bt147.1 (!t154) a0_0 a0_1 a0_2 a0_3 a0_4 a0_5 a0_6 a0_7 a0_8 a0_9 a0_10 a0_11 a0_12 a0_13 a0_14 a0_15 a0_16 l0_17)) else (wire_EncodeAsk.j0 k bt147.1 true a0_0 a0_1 a0_2 a0_3 a0_4 a0_5 a0_6 a0_7 a0_8 a0_9 a0_10 a0_11 a0_12 a0_13 a0_14 a0_15 a0_16 l0_17))) = some (r1, r2) := h
 clear h
 replace H := Option.bind_eq_some_iff.mp H
 obtain ⟨⟨t147, t150⟩, A20, H⟩ := H
 try dsimp only at H
 have A2 := Aside0.mk A20
 clear A20
 have HC3 := Aside0.mk H
 clear H
 go_enter Try.func16, Try.ntmps16
 go_upto_region 2 with (first | ((with_reducible refine gate_dst (N := 1) rfl ?_); (try (refine gate_guard (by rfl) ?_; dsimp only)); refine box_event ?hg (N := 1) ?hd (cs := #[.int .i64 a0_0, .int .i64 a0_1, .int .i64 a0_2, .int .i64 a0_3, .int .i64 a0_4, .int .i64 a0_5, .int .i64 a0_6, .int .i64 a0_7, .int .i64 a0_8, .int .i64 a0_9, .int .i64 a0_10, .int .i64 a0_11, .bool a0_12, .int .i64 a0_13, .int .i64 a0_14, .int .i64 a0_15, .int .i64 a0_16, .slice A0_17 l0_17.length c0_17]) (t := 43) ?hr ?_; (case hd => rfl); (case hg => rfl); (case hr => first | (go_simp; done) | (go_simp; rfl)); intro gb146 hg w4 hbox hb; have BK146 := Aside0.mk (hbox); have GW146 := Aside0.mk (Zz.ge hg HB.out); have GE146 := Aside0.mk (Zz.ge hg HB.out); replace HB := Aside0.mk (below_step (Zz.i HB.out) hb); clear hb hbox hg) | ((with_reducible refine gate_callee (f := 38) rfl ?_); refine goesL_ (some 15) rfl rfl Try.func38 (by kernel_rfl) rfl #[.pointer (some ⟨gb146, 0, none⟩)] rfl Zz.g ?_; (with_reducible refine (wire_fields.calls gb146 #[.int .i64 a0_0, .int .i64 a0_1, .int .i64 a0_2, .int .i64 a0_3, .int .i64 a0_4, .int .i64 a0_5, .int .i64 a0_6, .int .i64 a0_7, .int .i64 a0_8, .int .i64 a0_9, .int .i64 a0_10, .int .i64 a0_11, .bool a0_12, .int .i64 a0_13, .int .i64 a0_14, .int .i64 a0_15, .int .i64 a0_16, .slice A0_17 l0_17.length c0_17] a0_0 t147 t150 _ ?side1 A2.out).mono ?_); (case side1 => exact ⟨by exact Zz.p BK146.out, rfl⟩); rintro e w5 ⟨v148, rfl, ho0, hb⟩; refine ⟨_, rfl, ?_⟩; have HO149 := Aside0.mk (Kd.R_lower ho0 (below_size (Zz.i HB.out))); replace BK146 := Aside0.mk (Zz.bb BK146.out hb); replace HB := Aside0.mk (below_step (Zz.i HB.out) hb); (try clear hb); (try clear ho0)))
 (try simp only [Act.put, List.setIfInBounds_toArray, List.set_cons_zero, List.set_cons_succ])
 go_cut [26] (fun v26 wc => ∃ (kq : Nat) (x26_2 : Bool), v26 = .bool x26_2 ∧ Aside0 (wire_EncodeAsk.j0 kq t147 x26_2 a0_0 a0_1 a0_2 a0_3 a0_4 a0_5 a0_6 a0_7 a0_8 a0_9 a0_10 a0_11 a0_12 a0_13 a0_14 a0_15 a0_16 l0_17 = some (r1, r2)) ∧ Aside0 (kq ≤ k) ∧ Aside0 (Kd.R (Kp.fp gb146) 91 wc w.heap.size (fun _ => True) v148 t147) ∧ Aside0 (wc.heap[gb146]? = some (.cells #[.int .i64 a0_0, .int .i64 a0_1, .int .i64 a0_2, .int .i64 a0_3, .int .i64 a0_4, .int .i64 a0_5, .int .i64 a0_6, .int .i64 a0_7, .int .i64 a0_8, .int .i64 a0_9, .int .i64 a0_10, .int .i64 a0_11, .bool a0_12, .int .i64 a0_13, .int .i64 a0_14, .int .i64 a0_15, .int .i64 a0_16, (.slice A0_17 l0_17.length c0_17)] 43 (0, 0))) ∧ Aside0 (Below w.heap.size w wc))
 case first =>
  have H := HC3.out
  clear HC3
  by_cases c6 : t150 = true
  ·subst c6
   rw [if_pos rfl] at H
   obtain ⟨y151, hy151⟩ : ∃ y_ : List Int, y_ = (([a0_1] : List Int)) := ⟨_, rfl⟩
   replace H : ((wire_within.f y151).bind fun t154 => (wire_EncodeAsk.j0 k t147 (!t154) a0_0 a0_1 a0_2 a0_3 a0_4 a0_5 a0_6 a0_7 a0_8 a0_9 a0_10 a0_11 a0_12 a0_13 a0_14 a0_15 a0_16 l0_17)) = some (r1, r2) := by first | (rw [hy151]; with_reducible exact H) | (have H2_ := (Option.bind_some _ _).symm.trans H; rw [hy151]; with_reducible exact H2_) | (have H2_ := (Option.bind_some _ _).symm.trans H; with_reducible exact H2_) | with_reducible exact H | (rw [hy151]; exact H) | exact H
   have Ny151 := Aside0.mk hy151
   clear hy151
   replace H := Option.bind_eq_some_iff.mp H
   obtain ⟨t154, A70, H⟩ := H
   try dsimp only at H
   have A7 := Aside0.mk A70
   clear A70
   have H' := Aside0.mk H
   clear H
   have hcz8 := Zz.c18 BK146.out
   have hfz8 := blk_frozen BK146.out
   go_wp2_with (first | ((with_reducible refine gate_dst (N := 23) rfl ?_); (try (refine gate_guard (by rfl) ?_; dsimp only)); refine Kd.R_lit (Kd.int .i64) _ 3 ?hg (N := 23) ?hd (xs := ([a0_1] : List Int)) (inner := [.int .i64 a0_1]) (ok := fun _ => True) (okp := fun _ => True) ?hr ?hp (fun _ hk => hk) trivial (Below.refl _ _) (Nat.le_refl _) (by simp) ?_; (case hd => rfl); (case hg => rfl); (case hr => first | (go_simp; done) | (go_simp; rfl)); (case hp => exact (Reps.one (show Kd.M (Kd.int .i64) _ _ _ a0_1 [.int .i64 a0_1] from rfl) (Reps.none _ _))); intro v152 w9 ho10 hb hg_ hnew_; clear hg_ hnew_; (first | rw [← Ny151.out] at ho10 | (simp only [Int.reduceToNat] at ho10; rw [← Ny151.out] at ho10)); replace HO149 := Aside0.mk (Kd.R_below (Zz.r HO149.out) hb); have HO153 := Aside0.mk (Kd.R_lower ho10 (below_size (Zz.i HB.out))); replace BK146 := Aside0.mk (Zz.bb BK146.out hb); replace HB := Aside0.mk (below_step (Zz.i HB.out) hb); clear hb ho10; obtain ⟨Ao11, co11, eo11⟩ := Kd.R_slice HO153.out; subst eo11) | (go_at_call 21; (with_reducible refine (wire_within.calls _ _ y151 t154 _ ?side1 ?side2 A7.out).mono ?_); (case side1 => repeat (first | exact (Kd.R_reads' HO153.out).2.2 | (with_reducible refine Kd.C_alloc ?_ _) | (with_reducible refine Kd.C_drewN ?_ _) | (with_reducible refine Kd.C_drew ?_))); (case side2 => exact (Kd.R_reads' HO153.out).2.1); rintro e w' ⟨rfl, ⟨nd, rfl⟩⟩))
   go_meet
   case rel => exact ⟨_, (!t154), Zz.q, H', ⟨by first | omega | exact Nat.le_refl _⟩, ⟨Zz.r HO149.out⟩, ⟨Zz.p BK146.out⟩, ⟨Zz.i HB.out⟩⟩
  replace c6 := Bool.eq_false_iff.mpr c6
  subst c6
  rw [if_neg Bool.false_ne_true] at H
  have H' := Aside0.mk H
  clear H
  go_wp2
  go_meet
  case rel => exact ⟨_, (true), Zz.q, H', ⟨by first | omega | exact Nat.le_refl _⟩, ⟨Zz.r HO149.out⟩, ⟨Zz.p BK146.out⟩, ⟨Zz.i HB.out⟩⟩
 clear HC3
 (try clear c1);(try clear p2);(try clear c3);(try clear c6);(try clear hcz8);(try clear hfz8)
 obtain ⟨kq, x26_2, rfl, HA, HJ2, HO_4, BK146, HB⟩ := hcut
 cases kq with
 | zero => exact absurd HA.out (by simp [wire_EncodeAsk.j0])
 | succ kj2 =>
  have H := HA.out
  clear HA
  simp only [wire_EncodeAsk.j0] at H
  by_cases c12 : x26_2 = true
  ·subst c12
   rw [if_pos rfl] at H
   simp only [Option.some.injEq, Prod.mk.injEq] at H
   obtain ⟨rfl, rfl⟩ := H
   go_wp2
   go_ret2
   exact ⟨Zr.e, Zz.i HB.out⟩
  replace c12 := Bool.eq_false_iff.mpr c12
  subst c12
  rw [if_neg Bool.false_ne_true] at H
  obtain ⟨y155, hy155⟩ : ∃ y_ : List Int, y_ = (([a0_0, a0_1] : List Int)) := ⟨_, rfl⟩
  replace H : (wire_EncodeAsk.l0 kj2 y155 t147 (t147.length : Int) 0 a0_0 a0_1 a0_2 a0_3 a0_4 a0_5 a0_6 a0_7 a0_8 a0_9 a0_10 a0_11 a0_12 a0_13 a0_14 a0_15 a0_16 l0_17) = some (r1, r2) := by first | (rw [hy155]; with_reducible exact H) | (have H2_ := (Option.bind_some _ _).symm.trans H; rw [hy155]; with_reducible exact H2_) | (have H2_ := (Option.bind_some _ _).symm.trans H; with_reducible exact H2_) | with_reducible exact H | (rw [hy155]; exact H) | exact H
  have Ny155 := Aside0.mk hy155
  clear hy155
  have H' := Aside0.mk H
  clear H
  have hcz13 := Zz.c18 BK146.out
  have hfz13 := blk_frozen BK146.out
  go_wp2_with (first | ((with_reducible refine gate_dst (N := 31) rfl ?_); (try (refine gate_guard (by rfl) ?_; dsimp only)); refine Kd.R_lit (Kd.int .i64) _ 3 ?hg (N := 31) ?hd (xs := ([a0_0, a0_1] : List Int)) (inner := [.int .i64 a0_0, .int .i64 a0_1]) (ok := fun _ => True) (okp := fun _ => True) ?hr ?hp (fun _ hk => hk) trivial (Below.refl _ _) (Nat.le_refl _) (by simp) ?_; (case hd => rfl); (case hg => rfl); (case hr => first | (go_simp; done) | (go_simp; rfl)); (case hp => exact (Reps.one (show Kd.M (Kd.int .i64) _ _ _ a0_0 [.int .i64 a0_0] from rfl) (Reps.one (show Kd.M (Kd.int .i64) _ _ _ a0_1 [.int .i64 a0_1] from rfl) (Reps.none _ _)))); intro v156 w14 ho15 hb hg_ hnew_; clear hg_ hnew_; (first | rw [← Ny155.out] at ho15 | (simp only [Int.reduceToNat] at ho15; rw [← Ny155.out] at ho15)); replace HO_4 := Aside0.mk (Kd.R_below (Zz.r HO_4.out) hb); have HO157 := Aside0.mk (Kd.R_lower ho15 (below_size (Zz.i HB.out))); replace BK146 := Aside0.mk (Zz.bb BK146.out hb); replace HB := Aside0.mk (below_step (Zz.i HB.out) hb); clear hb ho15; obtain ⟨Ao16, co16, eo16⟩ := Kd.R_slice HO_4.out; subst eo16))
  go_loopg [6, 34] kj2 (fun kq v6 v34 w' => ∃ (x6_2 : List Int) (x34_2 : Int) (x147002_2 : Int) (x147003_2 : Int) (x147004_2 : Int) (x147005_2 : Int) (x147006_2 : Int) (x147007_2 : Int) (x147008_2 : Int) (x147009_2 : Int) (x147010_2 : Int) (x147011_2 : Int), v34 = .int .i64 x34_2 ∧ Aside0 (wire_EncodeAsk.l0 kq x6_2 t147 (t147.length : Int) x34_2 a0_0 a0_1 x147002_2 x147003_2 x147004_2 x147005_2 x147006_2 x147007_2 x147008_2 x147009_2 x147010_2 x147011_2 a0_12 a0_13 a0_14 a0_15 a0_16 l0_17 = some (r1, r2)) ∧ Aside0 (kq ≤ kj2) ∧ Aside0 (Kd.R (Kd.int .i64) 3 w' w.heap.size (fun _ => True) v6 x6_2) ∧ Aside0 (Kd.R (Kp.fp gb146) 91 w' w.heap.size (fun _ => True) (.slice Ao16 t147.length co16) t147) ∧ Aside0 (w'.heap[gb146]? = some (.cells #[.int .i64 a0_0, .int .i64 a0_1, .int .i64 x147002_2, .int .i64 x147003_2, .int .i64 x147004_2, .int .i64 x147005_2, .int .i64 x147006_2, .int .i64 x147007_2, .int .i64 x147008_2, .int .i64 x147009_2, .int .i64 x147010_2, .int .i64 x147011_2, .bool a0_12, .int .i64 a0_13, .int .i64 a0_14, .int .i64 a0_15, .int .i64 a0_16, (.slice A0_17 l0_17.length c0_17)] 43 (0, 0))) ∧ Aside0 (Below w.heap.size w w'))
  case atStart => exact ⟨(y155), (0), (a0_2), (a0_3), (a0_4), (a0_5), (a0_6), (a0_7), (a0_8), (a0_9), (a0_10), (a0_11), Zz.q, H', ⟨Nat.le_refl _⟩, ⟨Zz.r HO157.out⟩, ⟨Zz.r HO_4.out⟩, ⟨Zz.p BK146.out⟩, ⟨Zz.i HB.out⟩⟩
  case round =>
   clear H'
   (try clear c1);(try clear p2);(try clear c3);(try clear c6);(try clear c12);(try clear c16);(try clear hcz13);(try clear hcz8);(try clear hfz13);(try clear hfz8)
   obtain ⟨x6_2, x34_2, x147002_2, x147003_2, x147004_2, x147005_2, x147006_2, x147007_2, x147008_2, x147009_2, x147010_2, x147011_2, rfl, HA, HK2, HO_6, HO_32, BK146, HB⟩ := hrel
   cases gk with
   | zero => exact absurd HA.out (by simp [wire_EncodeAsk.l0])
   | succ k2 =>
    have H := HA.out
    clear HA
    simp only [wire_EncodeAsk.l0] at H
    by_cases c17 : x34_2 < (t147.length : Int)
    ·rw [if_pos c17] at H
     have c17b0 : decide (x34_2 < (t147.length : Int)) = true := decide_eq_true c17
     clear c17
     by_cases c18 : 0 ≤ x34_2
     ·rw [if_pos c18] at H
      have c18b0 : decide (0 ≤ x34_2) = true := decide_eq_true c18
      clear c18
      by_cases c19 : x34_2 < (t147.length : Int)
      ·rw [if_pos c19] at H
       have c19b0 : decide (x34_2 < (t147.length : Int)) = true := decide_eq_true c19
       clear c19
       by_cases c20 : 2 ≤ (rd t147 x34_2)
       ·rw [if_pos c20] at H
        have c20b0 : decide (2 ≤ (rd t147 x34_2)) = true := decide_eq_true c20
        clear c20
        by_cases c21 : (rd t147 x34_2) ≤ 11
        ·rw [if_pos c21] at H
         have c21b0 : decide ((rd t147 x34_2) ≤ 11) = true := decide_eq_true c21
         clear c21
         by_cases c22 : x6_2.length < 17592186044416
         ·rw [if_pos c22] at H
          have LMc22 := Aside0.mk c22
          clear c22
          obtain ⟨y159, hy159⟩ : ∃ y_ : List Int, y_ = (x6_2 ++ [Kp.fget (rd t147 x34_2) x147002_2 x147003_2 x147004_2 x147005_2 x147006_2 x147007_2 x147008_2 x147009_2 x147010_2 x147011_2]) := ⟨_, rfl⟩
          replace H : (wire_EncodeAsk.l0 k2 y159 t147 (t147.length : Int) (wrap64 (x34_2 + 1)) a0_0 a0_1 (Kp.fset (rd t147 x34_2) 2 0 x147002_2) (Kp.fset (rd t147 x34_2) 3 0 x147003_2) (Kp.fset (rd t147 x34_2) 4 0 x147004_2) (Kp.fset (rd t147 x34_2) 5 0 x147005_2) (Kp.fset (rd t147 x34_2) 6 0 x147006_2) (Kp.fset (rd t147 x34_2) 7 0 x147007_2) (Kp.fset (rd t147 x34_2) 8 0 x147008_2) (Kp.fset (rd t147 x34_2) 9 0 x147009_2) (Kp.fset (rd t147 x34_2) 10 0 x147010_2) (Kp.fset (rd t147 x34_2) 11 0 x147011_2) a0_12 a0_13 a0_14 a0_15 a0_16 l0_17) = some (r1, r2) := by first | (rw [hy159]; with_reducible exact H) | (have H2_ := (Option.bind_some _ _).symm.trans H; rw [hy159]; with_reducible exact H2_) | (have H2_ := (Option.bind_some _ _).symm.trans H; with_reducible exact H2_) | with_reducible exact H | (rw [hy159]; exact H) | exact H
          have Ny159 := Aside0.mk hy159
          clear hy159
          have H' := Aside0.mk H
          clear H
          have p158 : 0 ≤ (x34_2 : Int) := of_decide_eq_true (by first | (with_reducible assumption) | assumption)
          have q158 : x34_2 < (t147.length : Int) := of_decide_eq_true (by first | (with_reducible assumption) | assumption)
          obtain ⟨ad158, e158, hx158_0⟩ := Kp.at_fp (Kd.R_reads' HO_32.out).2.2 x34_2 p158 q158
          cases e158
          replace p158 := eq_true p158
          replace q158 := eq_true q158
          have hcz23 := Zz.c18 BK146.out
          have hfz23 := blk_frozen BK146.out
          have hfp24 := Kp.fget_cell (o := (rd t147 x34_2)) BK146.out (of_decide_eq_true (by first | (with_reducible assumption) | assumption)) (of_decide_eq_true (by first | (with_reducible assumption) | assumption))
          go_wp2_with (first | ((with_reducible refine gate_builtin (b := .append) (xs := #[.tmp 38, .tmp 42]) rfl ?_); (try (refine gate_guard (by rfl) ?_; dsimp only)); at_builtin; refine Kd.R_append (Kd.int .i64) (w0 := w) w.heap.size rfl (.tmp 38) (.tmp 42) 23 3 (.int .i64 0) 8 rfl Try.underlying23 info3 rfl (by decide) (by omega) u6 x6_2 (Kp.fget (rd t147 x34_2) x147002_2 x147003_2 x147004_2 x147005_2 x147006_2 x147007_2 x147008_2 x147009_2 x147010_2 x147011_2) [.int .i64 (Kp.fget (rd t147 x34_2) x147002_2 x147003_2 x147004_2 x147005_2 x147006_2 x147007_2 x147008_2 x147009_2 x147010_2 x147011_2)] (fun _ => True) (fun _ => False) rfl rfl ?aP (fun _ hk => hk.elim) ?aF ?aO ?aB ?aS ?aL ?_; (case aP => exact rfl); (case aB => exact (Zz.i HB.out)); (case aF => exact (fun _ _ => trivial)); (case aO => exact (Zz.r HO_6.out)); (case aS => exact (below_size (Zz.i HB.out))); (case aL => have := LMc22.out; omega); intro v160 w25 ho hb hg hat; rw [← Ny159.out] at ho; replace HO_32 := Aside0.mk (Kd.R_over' (Zz.r HO_32.out) (Kd.R_typed (Zz.r HO_6.out)) (by first | decide | exact Kp.fp_ne (by decide)) hg); replace BK146 := Aside0.mk (blk_grown (g := gb146) (o := .cells #[.int .i64 a0_0, .int .i64 a0_1, .int .i64 x147002_2, .int .i64 x147003_2, .int .i64 x147004_2, .int .i64 x147005_2, .int .i64 x147006_2, .int .i64 x147007_2, .int .i64 x147008_2, .int .i64 x147009_2, .int .i64 x147010_2, .int .i64 x147011_2, .bool a0_12, .int .i64 a0_13, .int .i64 a0_14, .int .i64 a0_15, .int .i64 a0_16, .slice A0_17 l0_17.length c0_17] 43 (0, 0)) (Zz.p BK146.out) hg (Kd.R_ne HO_6.out BK146.out (by decide))); replace HB := Aside0.mk (hb); have HO161 := Aside0.mk (ho); clear HO_6; clear ho hb hg hat; have hcz26 := Zz.c18 BK146.out; have hfz26 := blk_frozen BK146.out; have hfp27 := Kp.fget_cell (o := (rd t147 x34_2)) BK146.out (of_decide_eq_true (by first | (with_reducible assumption) | assumption)) (of_decide_eq_true (by first | (with_reducible assumption) | assumption)); have hffp27 := blk_frozen BK146.out ((rd t147 x34_2) : Int).toNat) | ((with_reducible refine gate_store (t := 3) (p := 45) rfl ?_); refine store_event (t := 3) (p := 45) (v := ?vo_w28) (w1 := (w25.setCell ⟨gb146, ((rd t147 x34_2) : Int).toNat, none⟩ (.int .i64 0))) ?hg ?ho ?hn ?hr ?_; (case ho => rfl); (case hg => rfl); (case hn => rfl); (case hr => first | (go_simp; done) | (go_simp; rfl)); intro w28 hw; have n0_ : Aside0 (Kd.R (Kp.fp gb146) 91 w28 w.heap.size (fun _ => True) (.slice (some ad158) t147.length co16) t147) := ⟨(by rw [hw]; exact (by (with_reducible repeat (first | apply Kd.R_alloc | apply Kd.R_drewN | apply Kd.R_drew)); exact Kd.R_mono (Kd.R_far (p := ⟨gb146, ((rd t147 x34_2) : Int).toNat, none⟩) (Kd.R_types HO_32.out BK146.out (by first | decide | exact Kp.fp_ne (by decide))) (fun _ hk => hk.2) (.int .i64 0)) (fun _ hk => trivial)))⟩; have n1_ : Aside0 (Kd.R (Kd.int .i64) 3 w28 w.heap.size (fun _ => True) v160 y159) := ⟨(by rw [hw]; exact (by (with_reducible repeat (first | apply Kd.R_alloc | apply Kd.R_drewN | apply Kd.R_drew)); exact Kd.R_mono (Kd.R_far (p := ⟨gb146, ((rd t147 x34_2) : Int).toNat, none⟩) (Kd.R_types HO161.out BK146.out (by first | decide | exact Kp.fp_ne (by decide))) (fun _ hk => hk.2) (.int .i64 0)) (fun _ hk => trivial)))⟩; have n2_ : Aside0 (w28.heap[gb146]? = some (.cells #[.int .i64 a0_0, .int .i64 a0_1, .int .i64 (Kp.fset (rd t147 x34_2) 2 0 x147002_2), .int .i64 (Kp.fset (rd t147 x34_2) 3 0 x147003_2), .int .i64 (Kp.fset (rd t147 x34_2) 4 0 x147004_2), .int .i64 (Kp.fset (rd t147 x34_2) 5 0 x147005_2), .int .i64 (Kp.fset (rd t147 x34_2) 6 0 x147006_2), .int .i64 (Kp.fset (rd t147 x34_2) 7 0 x147007_2), .int .i64 (Kp.fset (rd t147 x34_2) 8 0 x147008_2), .int .i64 (Kp.fset (rd t147 x34_2) 9 0 x147009_2), .int .i64 (Kp.fset (rd t147 x34_2) 10 0 x147010_2), .int .i64 (Kp.fset (rd t147 x34_2) 11 0 x147011_2), .bool a0_12, .int .i64 a0_13, .int .i64 a0_14, .int .i64 a0_15, .int .i64 a0_16, .slice A0_17 l0_17.length c0_17] 43 (0, 0))) := ⟨(by rw [hw]; exact (by refine Kp.fset_blk ?_ (of_decide_eq_true (by first | (with_reducible assumption) | assumption)) (of_decide_eq_true (by first | (with_reducible assumption) | assumption)) _; (with_reducible repeat (first | refine blk_drewN ?_ _ | refine blk_drew ?_ | refine blk_alloc ?_ _)); exact BK146.out))⟩; have n3_ : Aside0 (Below w.heap.size w w28) := ⟨(by rw [hw]; exact (Zz.i HB.out))⟩; clear hw; clear HO_32; clear HO161; clear BK146; clear HB; have HO_32 := n0_; have HO161 := n1_; have BK146 := n2_; have HB := n3_; clear n0_ n1_ n2_ n3_))
          go_roundg k2
          case measure => have := HJ2.out; have := HK2.out; omega
          case rel => exact ⟨(y159), (wrap64 (x34_2 + 1)), (Kp.fset (rd t147 x34_2) 2 0 x147002_2), (Kp.fset (rd t147 x34_2) 3 0 x147003_2), (Kp.fset (rd t147 x34_2) 4 0 x147004_2), (Kp.fset (rd t147 x34_2) 5 0 x147005_2), (Kp.fset (rd t147 x34_2) 6 0 x147006_2), (Kp.fset (rd t147 x34_2) 7 0 x147007_2), (Kp.fset (rd t147 x34_2) 8 0 x147008_2), (Kp.fset (rd t147 x34_2) 9 0 x147009_2), (Kp.fset (rd t147 x34_2) 10 0 x147010_2), (Kp.fset (rd t147 x34_2) 11 0 x147011_2), Zz.q, H', ⟨by have := HJ2.out; have := HK2.out; omega⟩, ⟨Zz.r HO161.out⟩, ⟨Zz.r HO_32.out⟩, ⟨Zz.p BK146.out⟩, ⟨Zz.i HB.out⟩⟩
         rw [if_neg c22] at H
         exact absurd H (by simp)
        rw [if_neg c21] at H
        exact absurd H (by simp)
       rw [if_neg c20] at H
       exact absurd H (by simp)
      rw [if_neg c19] at H
      exact absurd H (by simp)
     rw [if_neg c18] at H
     exact absurd H (by simp)
    rw [if_neg c17] at H
    have c17b0 : decide (x34_2 < (t147.length : Int)) = false := decide_eq_false c17
    clear c17
    replace H := Option.bind_eq_some_iff.mp H
    obtain ⟨t162, A290, H⟩ := H
    try dsimp only at H
    have A29 := Aside0.mk A290
    clear A290
    have HC30 := Aside0.mk H
    clear H
    have hcz31 := Zz.c18 BK146.out
    have hfz31 := blk_frozen BK146.out
    go_upto_if 49 with (first | ((with_reducible refine gate_callee (f := 39) rfl ?_); refine goesL_ (some 49) rfl rfl Try.func39 (by kernel_rfl) rfl #[.int .i64 a0_0] rfl Zz.g ?_; (with_reducible refine (wire_flagged.calls a0_0 t162 _ A29.out).mono ?_); rintro e w' ⟨rfl, ⟨nd, rfl⟩⟩; refine ⟨_, rfl, ?_⟩))
    (try simp only [Act.put, List.setIfInBounds_toArray, List.set_cons_zero, List.set_cons_succ])
    go_cut [6] (fun v6 wc => ∃ (kq : Nat) (x6_29 : List Int) (x147012_29 : Bool), Aside0 (wire_EncodeAsk.j2 kq x6_29 a0_0 a0_1 x147002_2 x147003_2 x147004_2 x147005_2 x147006_2 x147007_2 x147008_2 x147009_2 x147010_2 x147011_2 x147012_29 a0_13 a0_14 a0_15 a0_16 l0_17 = some (r1, r2)) ∧ Aside0 (kq ≤ k2) ∧ Aside0 (Kd.R (Kd.int .i64) 3 wc w.heap.size (fun _ => True) v6 x6_29) ∧ Aside0 (wc.heap[gb146]? = some (.cells #[.int .i64 a0_0, .int .i64 a0_1, .int .i64 x147002_2, .int .i64 x147003_2, .int .i64 x147004_2, .int .i64 x147005_2, .int .i64 x147006_2, .int .i64 x147007_2, .int .i64 x147008_2, .int .i64 x147009_2, .int .i64 x147010_2, .int .i64 x147011_2, .bool x147012_29, .int .i64 a0_13, .int .i64 a0_14, .int .i64 a0_15, .int .i64 a0_16, (.slice A0_17 l0_17.length c0_17)] 43 (0, 0))) ∧ Aside0 (Below w.heap.size w wc))
    case first =>
     have H := HC30.out
     clear HC30
     by_cases c32 : t162 = true
     ·subst c32
      rw [if_pos rfl] at H
      by_cases c33 : a0_12 = true
      ·subst c33
       rw [if_pos rfl] at H
       by_cases c34 : x6_2.length < 17592186044416
       ·rw [if_pos c34] at H
        have LMc34 := Aside0.mk c34
        clear c34
        obtain ⟨y163, hy163⟩ : ∃ y_ : List Int, y_ = (x6_2 ++ [1]) := ⟨_, rfl⟩
        replace H : (wire_EncodeAsk.j2 k2 y163 a0_0 a0_1 x147002_2 x147003_2 x147004_2 x147005_2 x147006_2 x147007_2 x147008_2 x147009_2 x147010_2 x147011_2 false a0_13 a0_14 a0_15 a0_16 l0_17) = some (r1, r2) := by first | (rw [hy163]; with_reducible exact H) | (have H2_ := (Option.bind_some _ _).symm.trans H; rw [hy163]; with_reducible exact H2_) | (have H2_ := (Option.bind_some _ _).symm.trans H; with_reducible exact H2_) | with_reducible exact H | (rw [hy163]; exact H) | exact H
        have Ny163 := Aside0.mk hy163
        clear hy163
        have H' := Aside0.mk H
        clear H
        have hcz35 := Zz.c18 BK146.out
        have hfz35 := blk_frozen BK146.out
        go_wp2_with (first | ((with_reducible refine gate_builtin (b := .append) (xs := #[.tmp 52, .tmp 54]) rfl ?_); (try (refine gate_guard (by rfl) ?_; dsimp only)); at_builtin; refine Kd.R_append (Kd.int .i64) (w0 := w) w.heap.size rfl (.tmp 52) (.tmp 54) 23 3 (.int .i64 0) 8 rfl Try.underlying23 info3 rfl (by decide) (by omega) u6 x6_2 1 [.int .i64 1] (fun _ => True) (fun _ => False) rfl rfl ?aP (fun _ hk => hk.elim) ?aF ?aO ?aB ?aS ?aL ?_; (case aP => exact rfl); (case aB => exact (Zz.i HB.out)); (case aF => exact (fun _ _ => trivial)); (case aO => exact (Zz.r HO_6.out)); (case aS => exact (below_size (Zz.i HB.out))); (case aL => have := LMc34.out; omega); intro v164 w36 ho hb hg hat; rw [← Ny163.out] at ho; replace HO_32 := Aside0.mk (Kd.R_over' (Zz.r HO_32.out) (Kd.R_typed (Zz.r HO_6.out)) (by first | decide | exact Kp.fp_ne (by decide)) hg); replace BK146 := Aside0.mk (blk_grown (g := gb146) (o := .cells #[.int .i64 a0_0, .int .i64 a0_1, .int .i64 x147002_2, .int .i64 x147003_2, .int .i64 x147004_2, .int .i64 x147005_2, .int .i64 x147006_2, .int .i64 x147007_2, .int .i64 x147008_2, .int .i64 x147009_2, .int .i64 x147010_2, .int .i64 x147011_2, .bool true, .int .i64 a0_13, .int .i64 a0_14, .int .i64 a0_15, .int .i64 a0_16, .slice A0_17 l0_17.length c0_17] 43 (0, 0)) (Zz.p BK146.out) hg (Kd.R_ne HO_6.out BK146.out (by decide))); replace HB := Aside0.mk (hb); have HO165 := Aside0.mk (ho); clear HO_6; clear ho hb hg hat; have hcz37 := Zz.c18 BK146.out; have hfz37 := blk_frozen BK146.out))
        go_meet
        case rel => exact ⟨_, (y163), (false), H', ⟨by have := HJ2.out; have := HK2.out; first | omega | exact Nat.le_refl _⟩, ⟨by (with_reducible repeat (first | apply Kd.R_alloc | apply Kd.R_drewN | apply Kd.R_drew)); exact Kd.R_mono (Kd.R_far (p := ⟨gb146, 12, none⟩) (Kd.R_types HO165.out BK146.out (by first | decide | exact Kp.fp_ne (by decide))) (fun _ hk => hk.2) (.bool false)) (fun _ hk => trivial)⟩, ⟨by (with_reducible repeat (first | refine blk_drewN ?_ _ | refine blk_drew ?_ | refine blk_alloc ?_ _)); refine blk_put (cs := #[.int .i64 a0_0, .int .i64 a0_1, .int .i64 x147002_2, .int .i64 x147003_2, .int .i64 x147004_2, .int .i64 x147005_2, .int .i64 x147006_2, .int .i64 x147007_2, .int .i64 x147008_2, .int .i64 x147009_2, .int .i64 x147010_2, .int .i64 x147011_2, .bool true, .int .i64 a0_13, .int .i64 a0_14, .int .i64 a0_15, .int .i64 a0_16, .slice A0_17 l0_17.length c0_17]) ?_ 12 _ rfl; (with_reducible repeat (first | refine blk_drewN ?_ _ | refine blk_drew ?_ | refine blk_alloc ?_ _)); exact BK146.out⟩, ⟨Zz.i HB.out⟩⟩
       rw [if_neg c34] at H
       exact absurd H (by simp)
      replace c33 := Bool.eq_false_iff.mpr c33
      subst c33
      rw [if_neg Bool.false_ne_true] at H
      by_cases c38 : x6_2.length < 17592186044416
      ·rw [if_pos c38] at H
       have LMc38 := Aside0.mk c38
       clear c38
       obtain ⟨y166, hy166⟩ : ∃ y_ : List Int, y_ = (x6_2 ++ [0]) := ⟨_, rfl⟩
       replace H : (wire_EncodeAsk.j2 k2 y166 a0_0 a0_1 x147002_2 x147003_2 x147004_2 x147005_2 x147006_2 x147007_2 x147008_2 x147009_2 x147010_2 x147011_2 false a0_13 a0_14 a0_15 a0_16 l0_17) = some (r1, r2) := by first | (rw [hy166]; with_reducible exact H) | (have H2_ := (Option.bind_some _ _).symm.trans H; rw [hy166]; with_reducible exact H2_) | (have H2_ := (Option.bind_some _ _).symm.trans H; with_reducible exact H2_) | with_reducible exact H | (rw [hy166]; exact H) | exact H
       have Ny166 := Aside0.mk hy166
       clear hy166
       have H' := Aside0.mk H
       clear H
       have hcz39 := Zz.c18 BK146.out
       have hfz39 := blk_frozen BK146.out
       go_wp2_with (first | ((with_reducible refine gate_builtin (b := .append) (xs := #[.tmp 52, .tmp 54]) rfl ?_); (try (refine gate_guard (by rfl) ?_; dsimp only)); at_builtin; refine Kd.R_append (Kd.int .i64) (w0 := w) w.heap.size rfl (.tmp 52) (.tmp 54) 23 3 (.int .i64 0) 8 rfl Try.underlying23 info3 rfl (by decide) (by omega) u6 x6_2 0 [.int .i64 0] (fun _ => True) (fun _ => False) rfl rfl ?aP (fun _ hk => hk.elim) ?aF ?aO ?aB ?aS ?aL ?_; (case aP => exact rfl); (case aB => exact (Zz.i HB.out)); (case aF => exact (fun _ _ => trivial)); (case aO => exact (Zz.r HO_6.out)); (case aS => exact (below_size (Zz.i HB.out))); (case aL => have := LMc38.out; omega); intro v167 w40 ho hb hg hat; rw [← Ny166.out] at ho; replace HO_32 := Aside0.mk (Kd.R_over' (Zz.r HO_32.out) (Kd.R_typed (Zz.r HO_6.out)) (by first | decide | exact Kp.fp_ne (by decide)) hg); replace BK146 := Aside0.mk (blk_grown (g := gb146) (o := .cells #[.int .i64 a0_0, .int .i64 a0_1, .int .i64 x147002_2, .int .i64 x147003_2, .int .i64 x147004_2, .int .i64 x147005_2, .int .i64 x147006_2, .int .i64 x147007_2, .int .i64 x147008_2, .int .i64 x147009_2, .int .i64 x147010_2, .int .i64 x147011_2, .bool false, .int .i64 a0_13, .int .i64 a0_14, .int .i64 a0_15, .int .i64 a0_16, .slice A0_17 l0_17.length c0_17] 43 (0, 0)) (Zz.p BK146.out) hg (Kd.R_ne HO_6.out BK146.out (by decide))); replace HB := Aside0.mk (hb); have HO168 := Aside0.mk (ho); clear HO_6; clear ho hb hg hat; have hcz41 := Zz.c18 BK146.out; have hfz41 := blk_frozen BK146.out))
       go_meet
       case rel => exact ⟨_, (y166), (false), H', ⟨by have := HJ2.out; have := HK2.out; first | omega | exact Nat.le_refl _⟩, ⟨by (with_reducible repeat (first | apply Kd.R_alloc | apply Kd.R_drewN | apply Kd.R_drew)); exact Kd.R_mono (Kd.R_far (p := ⟨gb146, 12, none⟩) (Kd.R_types HO168.out BK146.out (by first | decide | exact Kp.fp_ne (by decide))) (fun _ hk => hk.2) (.bool false)) (fun _ hk => trivial)⟩, ⟨by (with_reducible repeat (first | refine blk_drewN ?_ _ | refine blk_drew ?_ | refine blk_alloc ?_ _)); refine blk_put (cs := #[.int .i64 a0_0, .int .i64 a0_1, .int .i64 x147002_2, .int .i64 x147003_2, .int .i64 x147004_2, .int .i64 x147005_2, .int .i64 x147006_2, .int .i64 x147007_2, .int .i64 x147008_2, .int .i64 x147009_2, .int .i64 x147010_2, .int .i64 x147011_2, .bool false, .int .i64 a0_13, .int .i64 a0_14, .int .i64 a0_15, .int .i64 a0_16, .slice A0_17 l0_17.length c0_17]) ?_ 12 _ rfl; (with_reducible repeat (first | refine blk_drewN ?_ _ | refine blk_drew ?_ | refine blk_alloc ?_ _)); exact BK146.out⟩, ⟨Zz.i HB.out⟩⟩
      rw [if_neg c38] at H
      exact absurd H (by simp)
     replace c32 := Bool.eq_false_iff.mpr c32
     subst c32
     rw [if_neg Bool.false_ne_true] at H
     have H' := Aside0.mk H
     clear H
     go_wp2
     go_meet
     case rel => exact ⟨_, (x6_2), (a0_12), H', ⟨by have := HJ2.out; have := HK2.out; first | omega | exact Nat.le_refl _⟩, ⟨Zz.r HO_6.out⟩, ⟨Zz.p BK146.out⟩, ⟨Zz.i HB.out⟩⟩
    clear HC30
    (try clear c1);(try clear p1);(try clear q1);(try clear hx1);(try clear c2);(try clear p2);(try clear c3);(try clear c6);(try clear p6);(try clear c12);(try clear p15);(try clear q15);(try clear hx15);(try clear c16);(try clear c17);(try clear c17b0);(try clear c18);(try clear c18b0);(try clear c19);(try clear c19b0);(try clear c20);(try clear c20b0);(try clear c21);(try clear c21b0);(try clear c22);(try clear p24);(try clear p27);(try clear c32);(try clear c33);(try clear c34);(try clear c38);(try clear c39);(try clear hcz13);(try clear hcz23);(try clear hcz26);(try clear hcz31);(try clear hcz35);(try clear hcz37);(try clear hcz39);(try clear hcz41);(try clear hcz8);(try clear hfz13);(try clear hfz23);(try clear hfz26);(try clear hfz31);(try clear hfz35);(try clear hfz37);(try clear hfz39);(try clear hfz41);(try clear hfz8);(try clear hx158_0);(try clear p158);(try clear q158)
    obtain ⟨kq, x6_29, x147012_29, HA, HJ29, HO_6, BK146, HB⟩ := hcut
    cases kq with
    | zero => exact absurd HA.out (by simp [wire_EncodeAsk.j2])
    | succ kj29 =>
     have H := HA.out
     clear HA
     simp only [wire_EncodeAsk.j2] at H
     replace H := Option.bind_eq_some_iff.mp H
     obtain ⟨t169, A420, H⟩ := H
     replace H : (if a0_0 = 3 then ((batch_Encode.f kj29 a0_13 a0_14 a0_15 a0_16 l0_17).bind fun bt170 => (if bt170.2 = 0 then ((varint_PutText.f bt170.1).bind fun t172 => (if t169.size + t172.size ≤ 9223372036854775807 then ((wire_within.f x6_29).bind fun t174 => (if t174 = true then ((wire_bare.f a0_0 a0_1 x147002_2 x147003_2 x147004_2 x147005_2 x147006_2 x147007_2 x147008_2 x147009_2 x147010_2 x147011_2 x147012_29 0 0 0 0 ([] : List (S57))).bind fun t175 => (if t175 = true then (if 0 = 0 then (wire_EncodeAsk.j3 kj29 (t169 ++ t172) (decide ((([] : List (S57)).length : Int) > 0))) else (wire_EncodeAsk.j3 kj29 (t169 ++ t172) true)) else (wire_EncodeAsk.j3 kj29 (t169 ++ t172) true))) else (wire_EncodeAsk.j3 kj29 (t169 ++ t172) true))) else (none))) else (some ((⟨#[]⟩ : ByteArray), bt170.2)))) else ((wire_within.f x6_29).bind fun t177 => (if t177 = true then ((wire_bare.f a0_0 a0_1 x147002_2 x147003_2 x147004_2 x147005_2 x147006_2 x147007_2 x147008_2 x147009_2 x147010_2 x147011_2 x147012_29 a0_13 a0_14 a0_15 a0_16 l0_17).bind fun t178 => (if t178 = true then (if a0_13 = 0 then (if a0_14 = 0 then (if a0_15 = 0 then (if a0_16 = 0 then (wire_EncodeAsk.j4 kj29 t169 (decide ((l0_17.length : Int) > 0))) else (wire_EncodeAsk.j4 kj29 t169 true)) else (wire_EncodeAsk.j4 kj29 t169 true)) else (wire_EncodeAsk.j4 kj29 t169 true)) else (wire_EncodeAsk.j4 kj29 t169 true)) else (wire_EncodeAsk.j4 kj29 t169 true))) else (wire_EncodeAsk.j4 kj29 t169 true)))) = some (r1, r2) := H
     have A42 := Aside0.mk A420
     clear A420
     by_cases c43 : a0_0 = 3
     ·rw [if_pos c43] at H
      obtain ⟨c43b0, c43b1⟩ := Zr.y c43
      clear c43
      replace H := Option.bind_eq_some_iff.mp H
      obtain ⟨⟨t170, t171⟩, A440, H⟩ := H
      replace H : (if t171 = 0 then ((varint_PutText.f t170).bind fun t172 => (if t169.size + t172.size ≤ 9223372036854775807 then ((wire_within.f x6_29).bind fun t174 => (if t174 = true then ((wire_bare.f a0_0 a0_1 x147002_2 x147003_2 x147004_2 x147005_2 x147006_2 x147007_2 x147008_2 x147009_2 x147010_2 x147011_2 x147012_29 0 0 0 0 ([] : List (S57))).bind fun t175 => (if t175 = true then (if 0 = 0 then (wire_EncodeAsk.j3 kj29 (t169 ++ t172) (decide ((([] : List (S57)).length : Int) > 0))) else (wire_EncodeAsk.j3 kj29 (t169 ++ t172) true)) else (wire_EncodeAsk.j3 kj29 (t169 ++ t172) true))) else (wire_EncodeAsk.j3 kj29 (t169 ++ t172) true))) else (none))) else (some ((⟨#[]⟩ : ByteArray), t171))) = some (r1, r2) := H
      have A44 := Aside0.mk A440
      clear A440
      by_cases c45 : t171 = 0
      ·rw [if_pos c45] at H
       obtain ⟨c45b0, c45b1⟩ := Zr.y c45
       clear c45
       replace H := Option.bind_eq_some_iff.mp H
       obtain ⟨t172, A460, H⟩ := H
       replace H : (if t169.size + t172.size ≤ 9223372036854775807 then ((wire_within.f x6_29).bind fun t174 => (if t174 = true then ((wire_bare.f a0_0 a0_1 x147002_2 x147003_2 x147004_2 x147005_2 x147006_2 x147007_2 x147008_2 x147009_2 x147010_2 x147011_2 x147012_29 0 0 0 0 ([] : List (S57))).bind fun t175 => (if t175 = true then (if 0 = 0 then (wire_EncodeAsk.j3 kj29 (t169 ++ t172) (decide ((([] : List (S57)).length : Int) > 0))) else (wire_EncodeAsk.j3 kj29 (t169 ++ t172) true)) else (wire_EncodeAsk.j3 kj29 (t169 ++ t172) true))) else (wire_EncodeAsk.j3 kj29 (t169 ++ t172) true))) else (none)) = some (r1, r2) := H
       have A46 := Aside0.mk A460
       clear A460
       by_cases c47 : t169.size + t172.size ≤ 9223372036854775807
       ·rw [if_pos c47] at H
        have c47b0 := eq_true c47
        have c47b1 : decide (t169.size + t172.size ≤ 9223372036854775807) = true := decide_eq_true c47
        try have c47b2 : (9223372036854775807 < t169.size + t172.size) = False := eq_false (Nat.not_lt.2 c47)
        have HC48 := Aside0.mk H
        clear H
        obtain ⟨Ao49, co49, eo49⟩ := Kd.R_slice HO_6.out
        subst eo49
        go_upto_region 25 with (first | ((with_reducible refine gate_callee (f := 23) rfl ?_); refine goesL_ (some 58) rfl rfl Try.func23 (by kernel_rfl) rfl #[.slice Ao49 x6_29.length co49] rfl Zz.g ?_; (with_reducible refine (varint_PutAll.calls _ _ x6_29 t169 _ ?side1 ?side2 A42.out).mono ?_); (case side1 => repeat (first | exact (Kd.R_reads' HO_6.out).2.2 | (with_reducible refine Kd.C_alloc ?_ _) | (with_reducible refine Kd.C_drewN ?_ _) | (with_reducible refine Kd.C_drew ?_))); (case side2 => exact (Kd.R_reads' HO_6.out).2.1); rintro e w50 ⟨rfl, hb⟩; refine ⟨_, rfl, ?_⟩; replace HO_6 := Aside0.mk (Kd.R_below (Zz.r HO_6.out) hb); replace BK146 := Aside0.mk (Zz.bb BK146.out hb); replace HB := Aside0.mk (below_step (Zz.i HB.out) hb); (try clear hb); have hcz51 := Zz.c18 BK146.out; have hfz51 := blk_frozen BK146.out) | ((with_reducible refine gate_callee (f := 40) rfl ?_); refine goesL_ (some 65) rfl rfl Try.func40 (by kernel_rfl) rfl #[.agg #[.int .i64 a0_13, .int .i64 a0_14, .int .i64 a0_15, .int .i64 a0_16, .slice A0_17 l0_17.length c0_17]] rfl Zz.g ?_; (with_reducible refine (batch_Encode.calls kj29 a0_13 a0_14 a0_15 a0_16 _ _ l0_17 t170 t171 _ ?side1 ?side2 A44.out).mono ?_); (case side1 => exact Zz.k (Kd.C_below HR0_17.out HB.out)); (case side2 => exact HC0_17.out); rintro e w52 ⟨rfl, hb⟩; refine ⟨_, rfl, ?_⟩; replace HO_6 := Aside0.mk (Kd.R_below (Zz.r HO_6.out) hb); replace BK146 := Aside0.mk (Zz.bb BK146.out hb); replace HB := Aside0.mk (below_step (Zz.i HB.out) hb); (try clear hb)) | ((with_reducible refine gate_callee (f := 41) rfl ?_); refine goesL_ (some 73) rfl rfl Try.func41 (by kernel_rfl) rfl #[.string t170] rfl Zz.g ?_; (with_reducible refine (varint_PutText.calls t170 t172 _ A46.out).mono ?_); rintro e w53 ⟨rfl, hb⟩; refine ⟨_, rfl, ?_⟩; replace HO_6 := Aside0.mk (Kd.R_below (Zz.r HO_6.out) hb); replace BK146 := Aside0.mk (Zz.bb BK146.out hb); replace HB := Aside0.mk (below_step (Zz.i HB.out) hb); (try clear hb); have hcz54 := Zz.c18 BK146.out; have hfz54 := blk_frozen BK146.out) | ((with_reducible refine gate_dst (N := 13) rfl ?_); (try (refine gate_guard (by rfl) ?_; dsimp only)); refine box_event ?hg (N := 13) ?hd (cs := #[.int .i64 0, .int .i64 0, .int .i64 0, .int .i64 0, .slice none 0 0]) (t := 41) ?hr ?_; (case hd => rfl); (case hg => rfl); (case hr => first | (go_simp; done) | (go_simp; rfl)); intro gb173 hg w55 hbox hb; have n0_ := Aside0.mk (Kd.R_below (by (with_reducible repeat (first | apply Kd.R_alloc | apply Kd.R_drewN | apply Kd.R_drew)); exact (Kd.R_mono (Zz.f5 (Kd.R_types HO_6.out BK146.out (by first | decide | exact Kp.fp_ne (by decide))) (fun _ hk => hk.2)) (fun _ h_ => h_.1))) hb); have n1_ := Aside0.mk (blk_below (g := gb146) (o := .cells #[.int .i64 a0_0, .int .i64 a0_1, .int .i64 x147002_2, .int .i64 x147003_2, .int .i64 x147004_2, .int .i64 x147005_2, .int .i64 x147006_2, .int .i64 x147007_2, .int .i64 x147008_2, .int .i64 x147009_2, .int .i64 x147010_2, .int .i64 x147011_2, .bool x147012_29, .int .i64 0, .int .i64 0, .int .i64 0, .int .i64 0, .slice none 0 0] 43 (0, 0)) (by (with_reducible repeat (first | refine blk_drewN ?_ _ | refine blk_drew ?_ | refine blk_alloc ?_ _)); exact Zz.u18_13_17 BK146.out) hb); have n2_ := Aside0.mk (below_step (Zz.i HB.out) hb); have n3_ := Aside0.mk (hbox); have n4_ := Aside0.mk (Zz.ge hg HB.out); have n5_ := Aside0.mk (Zz.ge hg HB.out); have n6_ := Aside0.mk ((by rw [hg]; exact Nat.ne_of_lt (blk_lt (g := gb146) (o := .cells #[.int .i64 a0_0, .int .i64 a0_1, .int .i64 x147002_2, .int .i64 x147003_2, .int .i64 x147004_2, .int .i64 x147005_2, .int .i64 x147006_2, .int .i64 x147007_2, .int .i64 x147008_2, .int .i64 x147009_2, .int .i64 x147010_2, .int .i64 x147011_2, .bool x147012_29, .int .i64 0, .int .i64 0, .int .i64 0, .int .i64 0, .slice none 0 0] 43 (0, 0)) (by (with_reducible repeat (first | refine blk_drewN ?_ _ | refine blk_drew ?_ | refine blk_alloc ?_ _)); exact Zz.u18_13_17 BK146.out)) : gb146 ≠ gb173)); have n7_ := Aside0.mk ((by rw [hg]; exact Nat.ne_of_gt (blk_lt (g := gb146) (o := .cells #[.int .i64 a0_0, .int .i64 a0_1, .int .i64 x147002_2, .int .i64 x147003_2, .int .i64 x147004_2, .int .i64 x147005_2, .int .i64 x147006_2, .int .i64 x147007_2, .int .i64 x147008_2, .int .i64 x147009_2, .int .i64 x147010_2, .int .i64 x147011_2, .bool x147012_29, .int .i64 0, .int .i64 0, .int .i64 0, .int .i64 0, .slice none 0 0] 43 (0, 0)) (by (with_reducible repeat (first | refine blk_drewN ?_ _ | refine blk_drew ?_ | refine blk_alloc ?_ _)); exact Zz.u18_13_17 BK146.out)) : gb173 ≠ gb146)); clear HO_6; clear BK146; clear HB; have HO_6 := n0_; have BK146 := n1_; have HB := n2_; have BK173 := n3_; have GW173 := n4_; have GE173 := n5_; have NB146_173 := n6_; have NB173_146 := n7_; clear n0_ n1_ n2_ n3_ n4_ n5_ n6_ n7_; clear hb hbox hg; have hnb56 := NB173_146.out; have hnc56 := NB146_173.out; have hcz57 := Zz.c5 BK173.out; have hfz57 := blk_frozen BK173.out))
        (try simp only [Act.put, List.setIfInBounds_toArray, List.set_cons_zero, List.set_cons_succ])
        go_cut [112] (fun v112 wc => ∃ (kq : Nat) (x112_47 : Bool), v112 = .bool x112_47 ∧ Aside0 (wire_EncodeAsk.j3 kq (t169 ++ t172) x112_47 = some (r1, r2)) ∧ Aside0 (kq ≤ kj29) ∧ Aside0 (wc.heap[gb146]? = some (.cells #[.int .i64 a0_0, .int .i64 a0_1, .int .i64 x147002_2, .int .i64 x147003_2, .int .i64 x147004_2, .int .i64 x147005_2, .int .i64 x147006_2, .int .i64 x147007_2, .int .i64 x147008_2, .int .i64 x147009_2, .int .i64 x147010_2, .int .i64 x147011_2, .bool x147012_29, .int .i64 0, .int .i64 0, .int .i64 0, .int .i64 0, (.slice none 0 0)] 43 (0, 0))) ∧ Aside0 (wc.heap[gb173]? = some (.cells #[.int .i64 0, .int .i64 0, .int .i64 0, .int .i64 0, (.slice none 0 0)] 41 (0, 0))) ∧ Aside0 (Below w.heap.size w wc))
        case first =>
         have H := HC48.out
         clear HC48
         replace H := Option.bind_eq_some_iff.mp H
         obtain ⟨t174, A580, H⟩ := H
         replace H : (if t174 = true then ((wire_bare.f a0_0 a0_1 x147002_2 x147003_2 x147004_2 x147005_2 x147006_2 x147007_2 x147008_2 x147009_2 x147010_2 x147011_2 x147012_29 0 0 0 0 ([] : List (S57))).bind fun t175 => (if t175 = true then (if 0 = 0 then (wire_EncodeAsk.j3 kj29 (t169 ++ t172) (decide ((([] : List (S57)).length : Int) > 0))) else (wire_EncodeAsk.j3 kj29 (t169 ++ t172) true)) else (wire_EncodeAsk.j3 kj29 (t169 ++ t172) true))) else (wire_EncodeAsk.j3 kj29 (t169 ++ t172) true)) = some (r1, r2) := H
         have A58 := Aside0.mk A580
         clear A580
         by_cases c59 : t174 = true
         ·subst c59
          rw [if_pos rfl] at H
          replace H := Option.bind_eq_some_iff.mp H
          obtain ⟨t175, A600, H⟩ := H
          replace H : (if t175 = true then (if 0 = 0 then (wire_EncodeAsk.j3 kj29 (t169 ++ t172) (decide ((([] : List (S57)).length : Int) > 0))) else (wire_EncodeAsk.j3 kj29 (t169 ++ t172) true)) else (wire_EncodeAsk.j3 kj29 (t169 ++ t172) true)) = some (r1, r2) := H
          have A60 := Aside0.mk A600
          clear A600
          by_cases c61 : t175 = true
          ·subst c61
           rw [if_pos rfl] at H
           by_cases c62 : 0 = 0
           ·rw [if_pos c62] at H
            obtain ⟨c62b0, c62b1⟩ := Zr.y c62
            clear c62
            (first | rw [c62b0] | rw [c62b9] | (simp only [i64_w, i32_w]; rw [c62b0]) | skip)
            have H' := Aside0.mk H
            clear H
            go_wp2_with (first | ((with_reducible refine gate_callee (f := 21) rfl ?_); refine goesL_ (some 80) rfl rfl Try.func21 (by kernel_rfl) rfl #[.slice Ao49 x6_29.length co49] rfl Zz.g ?_; (with_reducible refine (wire_within.calls _ _ x6_29 true _ ?side1 ?side2 A58.out).mono ?_); (case side1 => refine (Kd.R_reads' (e := 3) (base := w.heap.size) (ok := fun k_ => True) (n := x6_29.length) (c := co49) ?_).2.2; exact (by (with_reducible repeat (first | apply Kd.R_alloc | apply Kd.R_drewN | apply Kd.R_drew)); exact (Kd.R_mono (Zz.f5 (Kd.R_types HO_6.out BK173.out (by first | decide | exact Kp.fp_ne (by decide))) (fun _ hk => hk.2)) (fun _ h_ => h_.1)))); (case side2 => exact (Kd.R_reads' HO_6.out).2.1); rintro e w' ⟨rfl, ⟨nd, rfl⟩⟩; refine ⟨_, rfl, ?_⟩; have hnb63 := NB146_173.out; have hnc63 := NB173_146.out; have hcz64 := Zz.c18 BK146.out; have hfz64 := blk_frozen BK146.out) | (go_at_call 42; (refine (wire_bare.calls a0_0 a0_1 x147002_2 x147003_2 x147004_2 x147005_2 x147006_2 x147007_2 x147008_2 x147009_2 x147010_2 x147011_2 x147012_29 0 0 0 0 _ _ ([] : List (S57)) true _ ?side1 ?side2 A60.out).mono ?_); (case side1 => exact Kd.C_nil _ _); (case side2 => exact Nat.le_refl _); rintro e w65 ⟨rfl, hb⟩; have n0_ := Aside0.mk (Kd.R_below (by (with_reducible repeat (first | apply Kd.R_alloc | apply Kd.R_drewN | apply Kd.R_drew)); exact (Kd.R_mono (Zz.f5 (Kd.R_types HO_6.out BK173.out (by first | decide | exact Kp.fp_ne (by decide))) (fun _ hk => hk.2)) (fun _ h_ => h_.1))) hb); have n1_ := Aside0.mk (blk_below (g := gb146) (o := .cells #[.int .i64 a0_0, .int .i64 a0_1, .int .i64 x147002_2, .int .i64 x147003_2, .int .i64 x147004_2, .int .i64 x147005_2, .int .i64 x147006_2, .int .i64 x147007_2, .int .i64 x147008_2, .int .i64 x147009_2, .int .i64 x147010_2, .int .i64 x147011_2, .bool x147012_29, .int .i64 0, .int .i64 0, .int .i64 0, .int .i64 0, .slice none 0 0] 43 (0, 0)) (by exact Zz.q5 BK146.out NB146_173.out) hb); have n2_ := Aside0.mk (blk_below (g := gb173) (o := .cells #[.int .i64 0, .int .i64 0, .int .i64 0, .int .i64 0, .slice none 0 0] 41 (0, 0)) (by (with_reducible repeat (first | refine blk_drewN ?_ _ | refine blk_drew ?_ | refine blk_alloc ?_ _)); exact Zz.u5_0_4 BK173.out) hb); have n3_ := Aside0.mk (below_step (Zz.i HB.out) hb); clear HO_6; clear BK146; clear BK173; clear HB; have HO_6 := n0_; have BK146 := n1_; have BK173 := n2_; have HB := n3_; clear n0_ n1_ n2_ n3_; (try clear hb); (try clear hk); have hcz66 := Zz.c5 BK173.out; have hfz66 := blk_frozen BK173.out))
            go_meet
            case rel => exact ⟨_, (decide ((([] : List (S57)).length : Int) > 0)), Zz.q, H', ⟨by have := HJ2.out; have := HK2.out; have := HJ29.out; first | omega | exact Nat.le_refl _⟩, ⟨Zz.p BK146.out⟩, ⟨Zz.p BK173.out⟩, ⟨Zz.i HB.out⟩⟩
           exact absurd rfl c62
          replace c61 := Bool.eq_false_iff.mpr c61
          subst c61
          rw [if_neg Bool.false_ne_true] at H
          have H' := Aside0.mk H
          clear H
          go_wp2_with (first | ((with_reducible refine gate_callee (f := 21) rfl ?_); refine goesL_ (some 80) rfl rfl Try.func21 (by kernel_rfl) rfl #[.slice Ao49 x6_29.length co49] rfl Zz.g ?_; (with_reducible refine (wire_within.calls _ _ x6_29 true _ ?side1 ?side2 A58.out).mono ?_); (case side1 => refine (Kd.R_reads' (e := 3) (base := w.heap.size) (ok := fun k_ => True) (n := x6_29.length) (c := co49) ?_).2.2; exact (by (with_reducible repeat (first | apply Kd.R_alloc | apply Kd.R_drewN | apply Kd.R_drew)); exact (Kd.R_mono (Zz.f5 (Kd.R_types HO_6.out BK173.out (by first | decide | exact Kp.fp_ne (by decide))) (fun _ hk => hk.2)) (fun _ h_ => h_.1)))); (case side2 => exact (Kd.R_reads' HO_6.out).2.1); rintro e w' ⟨rfl, ⟨nd, rfl⟩⟩; refine ⟨_, rfl, ?_⟩; have hnb71 := NB146_173.out; have hnc71 := NB173_146.out; have hcz72 := Zz.c18 BK146.out; have hfz72 := blk_frozen BK146.out) | (go_at_call 42; (refine (wire_bare.calls a0_0 a0_1 x147002_2 x147003_2 x147004_2 x147005_2 x147006_2 x147007_2 x147008_2 x147009_2 x147010_2 x147011_2 x147012_29 0 0 0 0 _ _ ([] : List (S57)) false _ ?side1 ?side2 A60.out).mono ?_); (case side1 => exact Kd.C_nil _ _); (case side2 => exact Nat.le_refl _); rintro e w73 ⟨rfl, hb⟩; have n0_ := Aside0.mk (Kd.R_below (by (with_reducible repeat (first | apply Kd.R_alloc | apply Kd.R_drewN | apply Kd.R_drew)); exact (Kd.R_mono (Zz.f5 (Kd.R_types HO_6.out BK173.out (by first | decide | exact Kp.fp_ne (by decide))) (fun _ hk => hk.2)) (fun _ h_ => h_.1))) hb); have n1_ := Aside0.mk (blk_below (g := gb146) (o := .cells #[.int .i64 a0_0, .int .i64 a0_1, .int .i64 x147002_2, .int .i64 x147003_2, .int .i64 x147004_2, .int .i64 x147005_2, .int .i64 x147006_2, .int .i64 x147007_2, .int .i64 x147008_2, .int .i64 x147009_2, .int .i64 x147010_2, .int .i64 x147011_2, .bool x147012_29, .int .i64 0, .int .i64 0, .int .i64 0, .int .i64 0, .slice none 0 0] 43 (0, 0)) (by exact Zz.q5 BK146.out NB146_173.out) hb); have n2_ := Aside0.mk (blk_below (g := gb173) (o := .cells #[.int .i64 0, .int .i64 0, .int .i64 0, .int .i64 0, .slice none 0 0] 41 (0, 0)) (by (with_reducible repeat (first | refine blk_drewN ?_ _ | refine blk_drew ?_ | refine blk_alloc ?_ _)); exact Zz.u5_0_4 BK173.out) hb); have n3_ := Aside0.mk (below_step (Zz.i HB.out) hb); clear HO_6; clear BK146; clear BK173; clear HB; have HO_6 := n0_; have BK146 := n1_; have BK173 := n2_; have HB := n3_; clear n0_ n1_ n2_ n3_; (try clear hb); (try clear hk)))
          go_meet
          case rel => exact ⟨_, (true), Zz.q, H', ⟨by have := HJ2.out; have := HK2.out; have := HJ29.out; first | omega | exact Nat.le_refl _⟩, ⟨Zz.p BK146.out⟩, ⟨Zz.p BK173.out⟩, ⟨Zz.i HB.out⟩⟩
         replace c59 := Bool.eq_false_iff.mpr c59
         subst c59
         rw [if_neg Bool.false_ne_true] at H
         have H' := Aside0.mk H
         clear H
         go_wp2_with (first | ((with_reducible refine gate_callee (f := 21) rfl ?_); refine goesL_ (some 80) rfl rfl Try.func21 (by kernel_rfl) rfl #[.slice Ao49 x6_29.length co49] rfl Zz.g ?_; (with_reducible refine (wire_within.calls _ _ x6_29 false _ ?side1 ?side2 A58.out).mono ?_); (case side1 => refine (Kd.R_reads' (e := 3) (base := w.heap.size) (ok := fun k_ => True) (n := x6_29.length) (c := co49) ?_).2.2; exact (by (with_reducible repeat (first | apply Kd.R_alloc | apply Kd.R_drewN | apply Kd.R_drew)); exact (Kd.R_mono (Zz.f5 (Kd.R_types HO_6.out BK173.out (by first | decide | exact Kp.fp_ne (by decide))) (fun _ hk => hk.2)) (fun _ h_ => h_.1)))); (case side2 => exact (Kd.R_reads' HO_6.out).2.1); rintro e w' ⟨rfl, ⟨nd, rfl⟩⟩; refine ⟨_, rfl, ?_⟩))
         go_meet
         case rel => exact ⟨_, (true), Zz.q, H', ⟨by have := HJ2.out; have := HK2.out; have := HJ29.out; first | omega | exact Nat.le_refl _⟩, ⟨by exact Zz.q5 BK146.out NB146_173.out⟩, ⟨by (with_reducible repeat (first | refine blk_drewN ?_ _ | refine blk_drew ?_ | refine blk_alloc ?_ _)); exact Zz.u5_0_4 BK173.out⟩, ⟨Zz.i HB.out⟩⟩
        clear HC48
        (try clear c1);(try clear p1);(try clear q1);(try clear hx1);(try clear c2);(try clear p2);(try clear c3);(try clear c4);(try clear c5);(try clear c6);(try clear p6);(try clear c7);(try clear c12);(try clear p15);(try clear q15);(try clear hx15);(try clear c16);(try clear c17);(try clear c17b0);(try clear c18);(try clear c18b0);(try clear c19);(try clear c19b0);(try clear c20);(try clear c20b0);(try clear c21);(try clear c21b0);(try clear c22);(try clear c23);(try clear p24);(try clear p27);(try clear c32);(try clear c33);(try clear c34);(try clear c38);(try clear c39);(try clear c40);(try clear c41);(try clear c43);(try clear c43b0);(try clear c43b1);(try clear c45);(try clear c45b0);(try clear c45b1);(try clear c47);(try clear c47b0);(try clear c47b1);(try clear c47b2);(try clear c56);(try clear c59);(try clear c61);(try clear c62);(try clear c62b0);(try clear c62b1);(try clear c63);(try clear c67);(try clear c71);(try clear hcz13);(try clear hcz23);(try clear hcz26);(try clear hcz31);(try clear hcz35);(try clear hcz37);(try clear hcz39);(try clear hcz41);(try clear hcz51);(try clear hcz54);(try clear hcz57);(try clear hcz64);(try clear hcz66);(try clear hcz68_0);(try clear hcz68_1);(try clear hcz68_10);(try clear hcz68_11);(try clear hcz68_12);(try clear hcz68_13);(try clear hcz68_14);(try clear hcz68_15);(try clear hcz68_16);(try clear hcz68_17);(try clear hcz68_2);(try clear hcz68_3);(try clear hcz68_4);(try clear hcz68_5);(try clear hcz68_6);(try clear hcz68_7);(try clear hcz68_8);(try clear hcz68_9);(try clear hcz70_0);(try clear hcz70_1);(try clear hcz70_2);(try clear hcz70_3);(try clear hcz70_4);(try clear hcz72);(try clear hcz8);(try clear hfz13);(try clear hfz23);(try clear hfz26);(try clear hfz31);(try clear hfz35);(try clear hfz37);(try clear hfz39);(try clear hfz41);(try clear hfz51);(try clear hfz54);(try clear hfz57);(try clear hfz64);(try clear hfz66);(try clear hfz68_0);(try clear hfz68_1);(try clear hfz68_10);(try clear hfz68_11);(try clear hfz68_12);(try clear hfz68_13);(try clear hfz68_14);(try clear hfz68_15);(try clear hfz68_16);(try clear hfz68_17);(try clear hfz68_2);(try clear hfz68_3);(try clear hfz68_4);(try clear hfz68_5);(try clear hfz68_6);(try clear hfz68_7);(try clear hfz68_8);(try clear hfz68_9);(try clear hfz70_0);(try clear hfz70_1);(try clear hfz70_2);(try clear hfz70_3);(try clear hfz70_4);(try clear hfz72);(try clear hfz8);(try clear hx158_0);(try clear p158);(try clear q158)
        obtain ⟨kq, x112_47, rfl, HA, HJ47, BK146, BK173, HB⟩ := hcut
        cases kq with
        | zero => exact absurd HA.out (by simp [wire_EncodeAsk.j3])
        | succ kj47 =>
         have H := HA.out
         clear HA
         simp only [wire_EncodeAsk.j3] at H
         by_cases c74 : x112_47 = true
         ·subst c74
          rw [if_pos rfl] at H
          simp only [Option.some.injEq, Prod.mk.injEq] at H
          obtain ⟨rfl, rfl⟩ := H
          go_wp2
          go_ret2
          exact ⟨Zr.e, Zz.i HB.out⟩
         replace c74 := Bool.eq_false_iff.mpr c74
         subst c74
         rw [if_neg Bool.false_ne_true] at H
         simp only [Option.some.injEq, Prod.mk.injEq] at H
         obtain ⟨rfl, rfl⟩ := H
         go_wp2
         go_ret2
         exact ⟨Zr.e, Zz.i HB.out⟩
       rw [if_neg c47] at H
       exact absurd H (by simp)
      rw [if_neg c45] at H
      obtain ⟨c45b0, c45b1⟩ := Zr.n c45
      simp only [Option.some.injEq, Prod.mk.injEq] at H
      obtain ⟨rfl, rfl⟩ := H
      obtain ⟨Ao75, co75, eo75⟩ := Kd.R_slice HO_6.out
      subst eo75
      go_wp2_with (first | ((with_reducible refine gate_callee (f := 23) rfl ?_); refine goesL_ (some 58) rfl rfl Try.func23 (by kernel_rfl) rfl #[.slice Ao75 x6_29.length co75] rfl Zz.g ?_; (with_reducible refine (varint_PutAll.calls _ _ x6_29 t169 _ ?side1 ?side2 A42.out).mono ?_); (case side1 => repeat (first | exact (Kd.R_reads' HO_6.out).2.2 | (with_reducible refine Kd.C_alloc ?_ _) | (with_reducible refine Kd.C_drewN ?_ _) | (with_reducible refine Kd.C_drew ?_))); (case side2 => exact (Kd.R_reads' HO_6.out).2.1); rintro e w76 ⟨rfl, hb⟩; refine ⟨_, rfl, ?_⟩; replace HO_6 := Aside0.mk (Kd.R_below (Zz.r HO_6.out) hb); replace BK146 := Aside0.mk (Zz.bb BK146.out hb); replace HB := Aside0.mk (below_step (Zz.i HB.out) hb); (try clear hb); have hcz77 := Zz.c18 BK146.out; have hfz77 := blk_frozen BK146.out) | ((with_reducible refine gate_callee (f := 40) rfl ?_); refine goesL_ (some 65) rfl rfl Try.func40 (by kernel_rfl) rfl #[.agg #[.int .i64 a0_13, .int .i64 a0_14, .int .i64 a0_15, .int .i64 a0_16, .slice A0_17 l0_17.length c0_17]] rfl Zz.g ?_; (with_reducible refine (batch_Encode.calls kj29 a0_13 a0_14 a0_15 a0_16 _ _ l0_17 t170 t171 _ ?side1 ?side2 A44.out).mono ?_); (case side1 => exact Zz.k (Kd.C_below HR0_17.out HB.out)); (case side2 => exact HC0_17.out); rintro e w78 ⟨rfl, hb⟩; refine ⟨_, rfl, ?_⟩; replace HO_6 := Aside0.mk (Kd.R_below (Zz.r HO_6.out) hb); replace BK146 := Aside0.mk (Zz.bb BK146.out hb); replace HB := Aside0.mk (below_step (Zz.i HB.out) hb); (try clear hb)))
      go_ret2
      exact ⟨Zr.e, Zz.i HB.out⟩
     rw [if_neg c43] at H
     obtain ⟨c43b0, c43b1⟩ := Zr.n c43
     have HC79 := Aside0.mk H
     clear H
     obtain ⟨Ao80, co80, eo80⟩ := Kd.R_slice HO_6.out
     subst eo80
     go_upto_region 25 with (first | ((with_reducible refine gate_callee (f := 23) rfl ?_); refine goesL_ (some 58) rfl rfl Try.func23 (by kernel_rfl) rfl #[.slice Ao80 x6_29.length co80] rfl Zz.g ?_; (with_reducible refine (varint_PutAll.calls _ _ x6_29 t169 _ ?side1 ?side2 A42.out).mono ?_); (case side1 => repeat (first | exact (Kd.R_reads' HO_6.out).2.2 | (with_reducible refine Kd.C_alloc ?_ _) | (with_reducible refine Kd.C_drewN ?_ _) | (with_reducible refine Kd.C_drew ?_))); (case side2 => exact (Kd.R_reads' HO_6.out).2.1); rintro e w81 ⟨rfl, hb⟩; refine ⟨_, rfl, ?_⟩; replace HO_6 := Aside0.mk (Kd.R_below (Zz.r HO_6.out) hb); replace BK146 := Aside0.mk (Zz.bb BK146.out hb); replace HB := Aside0.mk (below_step (Zz.i HB.out) hb); (try clear hb); have hcz82 := Zz.c18 BK146.out; have hfz82 := blk_frozen BK146.out) | ((with_reducible refine gate_dst (N := 13) rfl ?_); (try (refine gate_guard (by rfl) ?_; dsimp only)); refine box_event ?hg (N := 13) ?hd (cs := #[.int .i64 0, .int .i64 0, .int .i64 0, .int .i64 0, .slice none 0 0]) (t := 41) ?hr ?_; (case hd => rfl); (case hg => rfl); (case hr => first | (go_simp; done) | (go_simp; rfl)); intro gb176 hg w83 hbox hb; replace HO_6 := Aside0.mk (Kd.R_below (Zz.r HO_6.out) hb); have BK176 := Aside0.mk (hbox); have GW176 := Aside0.mk (Zz.ge hg HB.out); have GE176 := Aside0.mk (Zz.ge hg HB.out); replace HB := Aside0.mk (below_step (Zz.i HB.out) hb); have NB146_176 := Aside0.mk (Zz.nl hg BK146.out); have NB176_146 := Aside0.mk (Zz.ng hg BK146.out); replace BK146 := Aside0.mk (Zz.bb BK146.out hb); clear hb hbox hg; have hnb84 := NB176_146.out; have hnc84 := NB146_176.out; have hcz85 := Zz.c5 BK176.out; have hfz85 := blk_frozen BK176.out))
     (try simp only [Act.put, List.setIfInBounds_toArray, List.set_cons_zero, List.set_cons_succ])
     go_cut [112] (fun v112 wc => ∃ (kq : Nat) (x112_78 : Bool), v112 = .bool x112_78 ∧ Aside0 (wire_EncodeAsk.j4 kq t169 x112_78 = some (r1, r2)) ∧ Aside0 (kq ≤ kj29) ∧ Aside0 (wc.heap[gb146]? = some (.cells #[.int .i64 a0_0, .int .i64 a0_1, .int .i64 x147002_2, .int .i64 x147003_2, .int .i64 x147004_2, .int .i64 x147005_2, .int .i64 x147006_2, .int .i64 x147007_2, .int .i64 x147008_2, .int .i64 x147009_2, .int .i64 x147010_2, .int .i64 x147011_2, .bool x147012_29, .int .i64 a0_13, .int .i64 a0_14, .int .i64 a0_15, .int .i64 a0_16, (.slice A0_17 l0_17.length c0_17)] 43 (0, 0))) ∧ Aside0 (wc.heap[gb176]? = some (.cells #[.int .i64 a0_13, .int .i64 a0_14, .int .i64 a0_15, .int .i64 a0_16, (.slice A0_17 l0_17.length c0_17)] 41 (0, 0))) ∧ Aside0 (Below w.heap.size w wc))
     case first =>
      have H := HC79.out
      clear HC79
      replace H := Option.bind_eq_some_iff.mp H
      obtain ⟨t177, A860, H⟩ := H
      try dsimp only at H
      have A86 := Aside0.mk A860
      clear A860
      by_cases c87 : t177 = true
      ·subst c87
       rw [if_pos rfl] at H
       replace H := Option.bind_eq_some_iff.mp H
       obtain ⟨t178, A880, H⟩ := H
       try dsimp only at H
       have A88 := Aside0.mk A880
       clear A880
       by_cases c89 : t178 = true
       ·subst c89
        rw [if_pos rfl] at H
        by_cases c90 : a0_13 = 0
        ·rw [if_pos c90] at H
         obtain ⟨c90b0, c90b1⟩ := Zr.y c90
         clear c90
         (first | rw [c90b0] | rw [c90b9] | (simp only [i64_w, i32_w]; rw [c90b0]) | skip)
         by_cases c91 : a0_14 = 0
         ·rw [if_pos c91] at H
          obtain ⟨c91b0, c91b1⟩ := Zr.y c91
          clear c91
          by_cases c92 : a0_15 = 0
          ·rw [if_pos c92] at H
           obtain ⟨c92b0, c92b1⟩ := Zr.y c92
           clear c92
           by_cases c93 : a0_16 = 0
           ·rw [if_pos c93] at H
            obtain ⟨c93b0, c93b1⟩ := Zr.y c93
            clear c93
            have H' := Aside0.mk H
            clear H
            go_wp2_with (first | ((with_reducible refine gate_callee (f := 21) rfl ?_); refine goesL_ (some 80) rfl rfl Try.func21 (by kernel_rfl) rfl #[.slice Ao80 x6_29.length co80] rfl Zz.g ?_; (with_reducible refine (wire_within.calls _ _ x6_29 true _ ?side1 ?side2 A86.out).mono ?_); (case side1 => refine (Kd.R_reads' (e := 3) (base := w.heap.size) (ok := fun k_ => True) (n := x6_29.length) (c := co80) ?_).2.2; exact (by (with_reducible repeat (first | apply Kd.R_alloc | apply Kd.R_drewN | apply Kd.R_drew)); exact (Kd.R_mono (Zz.f5 (Kd.R_types HO_6.out BK176.out (by first | decide | exact Kp.fp_ne (by decide))) (fun _ hk => hk.2)) (fun _ h_ => h_.1)))); (case side2 => exact (Kd.R_reads' HO_6.out).2.1); rintro e w' ⟨rfl, ⟨nd, rfl⟩⟩; refine ⟨_, rfl, ?_⟩; have hnb94 := NB146_176.out; have hnc94 := NB176_146.out; have hcz95 := Zz.c18 BK146.out; have hfz95 := blk_frozen BK146.out) | (go_at_call 42; (with_reducible refine (wire_bare.calls a0_0 a0_1 x147002_2 x147003_2 x147004_2 x147005_2 x147006_2 x147007_2 x147008_2 x147009_2 x147010_2 x147011_2 x147012_29 a0_13 a0_14 a0_15 a0_16 _ _ l0_17 true _ ?side1 ?side2 A88.out).mono ?_); (case side1 => exact Kd.C_below HR0_17.out (Zz.i HB.out)); (case side2 => exact HC0_17.out); rintro e w96 ⟨rfl, hb⟩; have n0_ := Aside0.mk (Kd.R_below (by (with_reducible repeat (first | apply Kd.R_alloc | apply Kd.R_drewN | apply Kd.R_drew)); exact (Kd.R_mono (Zz.f5 (Kd.R_types HO_6.out BK176.out (by first | decide | exact Kp.fp_ne (by decide))) (fun _ hk => hk.2)) (fun _ h_ => h_.1))) hb); have n1_ := Aside0.mk (blk_below (g := gb146) (o := .cells #[.int .i64 a0_0, .int .i64 a0_1, .int .i64 x147002_2, .int .i64 x147003_2, .int .i64 x147004_2, .int .i64 x147005_2, .int .i64 x147006_2, .int .i64 x147007_2, .int .i64 x147008_2, .int .i64 x147009_2, .int .i64 x147010_2, .int .i64 x147011_2, .bool x147012_29, .int .i64 a0_13, .int .i64 a0_14, .int .i64 a0_15, .int .i64 a0_16, .slice A0_17 l0_17.length c0_17] 43 (0, 0)) (by exact Zz.q5 BK146.out NB146_176.out) hb); have n2_ := Aside0.mk (blk_below (g := gb176) (o := .cells #[.int .i64 a0_13, .int .i64 a0_14, .int .i64 a0_15, .int .i64 a0_16, .slice A0_17 l0_17.length c0_17] 41 (0, 0)) (by (with_reducible repeat (first | refine blk_drewN ?_ _ | refine blk_drew ?_ | refine blk_alloc ?_ _)); exact Zz.u5_0_4 BK176.out) hb); have n3_ := Aside0.mk (below_step (Zz.i HB.out) hb); clear HO_6; clear BK146; clear BK176; clear HB; have HO_6 := n0_; have BK146 := n1_; have BK176 := n2_; have HB := n3_; clear n0_ n1_ n2_ n3_; (try clear hb); (try clear hk); have hcz97 := Zz.c5 BK176.out; have hfz97 := blk_frozen BK176.out))
            go_meet
            case rel => exact ⟨_, (decide ((l0_17.length : Int) > 0)), Zz.q, H', ⟨by have := HJ2.out; have := HK2.out; have := HJ29.out; first | omega | exact Nat.le_refl _⟩, ⟨Zz.p BK146.out⟩, ⟨Zz.p BK176.out⟩, ⟨Zz.i HB.out⟩⟩
           rw [if_neg c93] at H
           obtain ⟨c93b0, c93b1⟩ := Zr.n c93
           have H' := Aside0.mk H
           clear H
           go_wp2_with (first | ((with_reducible refine gate_callee (f := 21) rfl ?_); refine goesL_ (some 80) rfl rfl Try.func21 (by kernel_rfl) rfl #[.slice Ao80 x6_29.length co80] rfl Zz.g ?_; (with_reducible refine (wire_within.calls _ _ x6_29 true _ ?side1 ?side2 A86.out).mono ?_); (case side1 => refine (Kd.R_reads' (e := 3) (base := w.heap.size) (ok := fun k_ => True) (n := x6_29.length) (c := co80) ?_).2.2; exact (by (with_reducible repeat (first | apply Kd.R_alloc | apply Kd.R_drewN | apply Kd.R_drew)); exact (Kd.R_mono (Zz.f5 (Kd.R_types HO_6.out BK176.out (by first | decide | exact Kp.fp_ne (by decide))) (fun _ hk => hk.2)) (fun _ h_ => h_.1)))); (case side2 => exact (Kd.R_reads' HO_6.out).2.1); rintro e w' ⟨rfl, ⟨nd, rfl⟩⟩; refine ⟨_, rfl, ?_⟩; have hnb98 := NB146_176.out; have hnc98 := NB176_146.out; have hcz99 := Zz.c18 BK146.out; have hfz99 := blk_frozen BK146.out) | (go_at_call 42; (with_reducible refine (wire_bare.calls a0_0 a0_1 x147002_2 x147003_2 x147004_2 x147005_2 x147006_2 x147007_2 x147008_2 x147009_2 x147010_2 x147011_2 x147012_29 a0_13 a0_14 a0_15 a0_16 _ _ l0_17 true _ ?side1 ?side2 A88.out).mono ?_); (case side1 => exact Kd.C_below HR0_17.out (Zz.i HB.out)); (case side2 => exact HC0_17.out); rintro e w100 ⟨rfl, hb⟩; have n0_ := Aside0.mk (Kd.R_below (by (with_reducible repeat (first | apply Kd.R_alloc | apply Kd.R_drewN | apply Kd.R_drew)); exact (Kd.R_mono (Zz.f5 (Kd.R_types HO_6.out BK176.out (by first | decide | exact Kp.fp_ne (by decide))) (fun _ hk => hk.2)) (fun _ h_ => h_.1))) hb); have n1_ := Aside0.mk (blk_below (g := gb146) (o := .cells #[.int .i64 a0_0, .int .i64 a0_1, .int .i64 x147002_2, .int .i64 x147003_2, .int .i64 x147004_2, .int .i64 x147005_2, .int .i64 x147006_2, .int .i64 x147007_2, .int .i64 x147008_2, .int .i64 x147009_2, .int .i64 x147010_2, .int .i64 x147011_2, .bool x147012_29, .int .i64 a0_13, .int .i64 a0_14, .int .i64 a0_15, .int .i64 a0_16, .slice A0_17 l0_17.length c0_17] 43 (0, 0)) (by exact Zz.q5 BK146.out NB146_176.out) hb); have n2_ := Aside0.mk (blk_below (g := gb176) (o := .cells #[.int .i64 a0_13, .int .i64 a0_14, .int .i64 a0_15, .int .i64 a0_16, .slice A0_17 l0_17.length c0_17] 41 (0, 0)) (by (with_reducible repeat (first | refine blk_drewN ?_ _ | refine blk_drew ?_ | refine blk_alloc ?_ _)); exact Zz.u5_0_4 BK176.out) hb); have n3_ := Aside0.mk (below_step (Zz.i HB.out) hb); clear HO_6; clear BK146; clear BK176; clear HB; have HO_6 := n0_; have BK146 := n1_; have BK176 := n2_; have HB := n3_; clear n0_ n1_ n2_ n3_; (try clear hb); (try clear hk); have hcz101 := Zz.c5 BK176.out; have hfz101 := blk_frozen BK176.out))
           go_meet
           case rel => exact ⟨_, (true), Zz.q, H', ⟨by have := HJ2.out; have := HK2.out; have := HJ29.out; first | omega | exact Nat.le_refl _⟩, ⟨Zz.p BK146.out⟩, ⟨Zz.p BK176.out⟩, ⟨Zz.i HB.out⟩⟩
          rw [if_neg c92] at H
          obtain ⟨c92b0, c92b1⟩ := Zr.n c92
          have H' := Aside0.mk H
          clear H
          go_wp2_with (first | ((with_reducible refine gate_callee (f := 21) rfl ?_); refine goesL_ (some 80) rfl rfl Try.func21 (by kernel_rfl) rfl #[.slice Ao80 x6_29.length co80] rfl Zz.g ?_; (with_reducible refine (wire_within.calls _ _ x6_29 true _ ?side1 ?side2 A86.out).mono ?_); (case side1 => refine (Kd.R_reads' (e := 3) (base := w.heap.size) (ok := fun k_ => True) (n := x6_29.length) (c := co80) ?_).2.2; exact (by (with_reducible repeat (first | apply Kd.R_alloc | apply Kd.R_drewN | apply Kd.R_drew)); exact (Kd.R_mono (Zz.f5 (Kd.R_types HO_6.out BK176.out (by first | decide | exact Kp.fp_ne (by decide))) (fun _ hk => hk.2)) (fun _ h_ => h_.1)))); (case side2 => exact (Kd.R_reads' HO_6.out).2.1); rintro e w' ⟨rfl, ⟨nd, rfl⟩⟩; refine ⟨_, rfl, ?_⟩; have hnb102 := NB146_176.out; have hnc102 := NB176_146.out; have hcz103 := Zz.c18 BK146.out; have hfz103 := blk_frozen BK146.out) | (go_at_call 42; (with_reducible refine (wire_bare.calls a0_0 a0_1 x147002_2 x147003_2 x147004_2 x147005_2 x147006_2 x147007_2 x147008_2 x147009_2 x147010_2 x147011_2 x147012_29 a0_13 a0_14 a0_15 a0_16 _ _ l0_17 true _ ?side1 ?side2 A88.out).mono ?_); (case side1 => exact Kd.C_below HR0_17.out (Zz.i HB.out)); (case side2 => exact HC0_17.out); rintro e w104 ⟨rfl, hb⟩; have n0_ := Aside0.mk (Kd.R_below (by (with_reducible repeat (first | apply Kd.R_alloc | apply Kd.R_drewN | apply Kd.R_drew)); exact (Kd.R_mono (Zz.f5 (Kd.R_types HO_6.out BK176.out (by first | decide | exact Kp.fp_ne (by decide))) (fun _ hk => hk.2)) (fun _ h_ => h_.1))) hb); have n1_ := Aside0.mk (blk_below (g := gb146) (o := .cells #[.int .i64 a0_0, .int .i64 a0_1, .int .i64 x147002_2, .int .i64 x147003_2, .int .i64 x147004_2, .int .i64 x147005_2, .int .i64 x147006_2, .int .i64 x147007_2, .int .i64 x147008_2, .int .i64 x147009_2, .int .i64 x147010_2, .int .i64 x147011_2, .bool x147012_29, .int .i64 a0_13, .int .i64 a0_14, .int .i64 a0_15, .int .i64 a0_16, .slice A0_17 l0_17.length c0_17] 43 (0, 0)) (by exact Zz.q5 BK146.out NB146_176.out) hb); have n2_ := Aside0.mk (blk_below (g := gb176) (o := .cells #[.int .i64 a0_13, .int .i64 a0_14, .int .i64 a0_15, .int .i64 a0_16, .slice A0_17 l0_17.length c0_17] 41 (0, 0)) (by (with_reducible repeat (first | refine blk_drewN ?_ _ | refine blk_drew ?_ | refine blk_alloc ?_ _)); exact Zz.u5_0_4 BK176.out) hb); have n3_ := Aside0.mk (below_step (Zz.i HB.out) hb); clear HO_6; clear BK146; clear BK176; clear HB; have HO_6 := n0_; have BK146 := n1_; have BK176 := n2_; have HB := n3_; clear n0_ n1_ n2_ n3_; (try clear hb); (try clear hk); have hcz105 := Zz.c5 BK176.out; have hfz105 := blk_frozen BK176.out))
          go_meet
          case rel => exact ⟨_, (true), Zz.q, H', ⟨by have := HJ2.out; have := HK2.out; have := HJ29.out; first | omega | exact Nat.le_refl _⟩, ⟨Zz.p BK146.out⟩, ⟨Zz.p BK176.out⟩, ⟨Zz.i HB.out⟩⟩
         rw [if_neg c91] at H
         obtain ⟨c91b0, c91b1⟩ := Zr.n c91
         have H' := Aside0.mk H
         clear H
         go_wp2_with (first | ((with_reducible refine gate_callee (f := 21) rfl ?_); refine goesL_ (some 80) rfl rfl Try.func21 (by kernel_rfl) rfl #[.slice Ao80 x6_29.length co80] rfl Zz.g ?_; (with_reducible refine (wire_within.calls _ _ x6_29 true _ ?side1 ?side2 A86.out).mono ?_); (case side1 => refine (Kd.R_reads' (e := 3) (base := w.heap.size) (ok := fun k_ => True) (n := x6_29.length) (c := co80) ?_).2.2; exact (by (with_reducible repeat (first | apply Kd.R_alloc | apply Kd.R_drewN | apply Kd.R_drew)); exact (Kd.R_mono (Zz.f5 (Kd.R_types HO_6.out BK176.out (by first | decide | exact Kp.fp_ne (by decide))) (fun _ hk => hk.2)) (fun _ h_ => h_.1)))); (case side2 => exact (Kd.R_reads' HO_6.out).2.1); rintro e w' ⟨rfl, ⟨nd, rfl⟩⟩; refine ⟨_, rfl, ?_⟩; have hnb106 := NB146_176.out; have hnc106 := NB176_146.out; have hcz107 := Zz.c18 BK146.out; have hfz107 := blk_frozen BK146.out) | (go_at_call 42; (with_reducible refine (wire_bare.calls a0_0 a0_1 x147002_2 x147003_2 x147004_2 x147005_2 x147006_2 x147007_2 x147008_2 x147009_2 x147010_2 x147011_2 x147012_29 a0_13 a0_14 a0_15 a0_16 _ _ l0_17 true _ ?side1 ?side2 A88.out).mono ?_); (case side1 => exact Kd.C_below HR0_17.out (Zz.i HB.out)); (case side2 => exact HC0_17.out); rintro e w108 ⟨rfl, hb⟩; have n0_ := Aside0.mk (Kd.R_below (by (with_reducible repeat (first | apply Kd.R_alloc | apply Kd.R_drewN | apply Kd.R_drew)); exact (Kd.R_mono (Zz.f5 (Kd.R_types HO_6.out BK176.out (by first | decide | exact Kp.fp_ne (by decide))) (fun _ hk => hk.2)) (fun _ h_ => h_.1))) hb); have n1_ := Aside0.mk (blk_below (g := gb146) (o := .cells #[.int .i64 a0_0, .int .i64 a0_1, .int .i64 x147002_2, .int .i64 x147003_2, .int .i64 x147004_2, .int .i64 x147005_2, .int .i64 x147006_2, .int .i64 x147007_2, .int .i64 x147008_2, .int .i64 x147009_2, .int .i64 x147010_2, .int .i64 x147011_2, .bool x147012_29, .int .i64 a0_13, .int .i64 a0_14, .int .i64 a0_15, .int .i64 a0_16, .slice A0_17 l0_17.length c0_17] 43 (0, 0)) (by exact Zz.q5 BK146.out NB146_176.out) hb); have n2_ := Aside0.mk (blk_below (g := gb176) (o := .cells #[.int .i64 a0_13, .int .i64 a0_14, .int .i64 a0_15, .int .i64 a0_16, .slice A0_17 l0_17.length c0_17] 41 (0, 0)) (by (with_reducible repeat (first | refine blk_drewN ?_ _ | refine blk_drew ?_ | refine blk_alloc ?_ _)); exact Zz.u5_0_4 BK176.out) hb); have n3_ := Aside0.mk (below_step (Zz.i HB.out) hb); clear HO_6; clear BK146; clear BK176; clear HB; have HO_6 := n0_; have BK146 := n1_; have BK176 := n2_; have HB := n3_; clear n0_ n1_ n2_ n3_; (try clear hb); (try clear hk); have hcz109 := Zz.c5 BK176.out; have hfz109 := blk_frozen BK176.out))
         go_meet
         case rel => exact ⟨_, (true), Zz.q, H', ⟨by have := HJ2.out; have := HK2.out; have := HJ29.out; first | omega | exact Nat.le_refl _⟩, ⟨Zz.p BK146.out⟩, ⟨Zz.p BK176.out⟩, ⟨Zz.i HB.out⟩⟩
        rw [if_neg c90] at H
        obtain ⟨c90b0, c90b1⟩ := Zr.n c90
        (first | rw [c90b0] | rw [c90b9] | (simp only [i64_w, i32_w]; rw [c90b0]) | skip)
        have H' := Aside0.mk H
        clear H
        go_wp2_with (first | ((with_reducible refine gate_callee (f := 21) rfl ?_); refine goesL_ (some 80) rfl rfl Try.func21 (by kernel_rfl) rfl #[.slice Ao80 x6_29.length co80] rfl Zz.g ?_; (with_reducible refine (wire_within.calls _ _ x6_29 true _ ?side1 ?side2 A86.out).mono ?_); (case side1 => refine (Kd.R_reads' (e := 3) (base := w.heap.size) (ok := fun k_ => True) (n := x6_29.length) (c := co80) ?_).2.2; exact (by (with_reducible repeat (first | apply Kd.R_alloc | apply Kd.R_drewN | apply Kd.R_drew)); exact (Kd.R_mono (Zz.f5 (Kd.R_types HO_6.out BK176.out (by first | decide | exact Kp.fp_ne (by decide))) (fun _ hk => hk.2)) (fun _ h_ => h_.1)))); (case side2 => exact (Kd.R_reads' HO_6.out).2.1); rintro e w' ⟨rfl, ⟨nd, rfl⟩⟩; refine ⟨_, rfl, ?_⟩; have hnb110 := NB146_176.out; have hnc110 := NB176_146.out; have hcz111 := Zz.c18 BK146.out; have hfz111 := blk_frozen BK146.out) | (go_at_call 42; (with_reducible refine (wire_bare.calls a0_0 a0_1 x147002_2 x147003_2 x147004_2 x147005_2 x147006_2 x147007_2 x147008_2 x147009_2 x147010_2 x147011_2 x147012_29 a0_13 a0_14 a0_15 a0_16 _ _ l0_17 true _ ?side1 ?side2 A88.out).mono ?_); (case side1 => exact Kd.C_below HR0_17.out (Zz.i HB.out)); (case side2 => exact HC0_17.out); rintro e w112 ⟨rfl, hb⟩; have n0_ := Aside0.mk (Kd.R_below (by (with_reducible repeat (first | apply Kd.R_alloc | apply Kd.R_drewN | apply Kd.R_drew)); exact (Kd.R_mono (Zz.f5 (Kd.R_types HO_6.out BK176.out (by first | decide | exact Kp.fp_ne (by decide))) (fun _ hk => hk.2)) (fun _ h_ => h_.1))) hb); have n1_ := Aside0.mk (blk_below (g := gb146) (o := .cells #[.int .i64 a0_0, .int .i64 a0_1, .int .i64 x147002_2, .int .i64 x147003_2, .int .i64 x147004_2, .int .i64 x147005_2, .int .i64 x147006_2, .int .i64 x147007_2, .int .i64 x147008_2, .int .i64 x147009_2, .int .i64 x147010_2, .int .i64 x147011_2, .bool x147012_29, .int .i64 a0_13, .int .i64 a0_14, .int .i64 a0_15, .int .i64 a0_16, .slice A0_17 l0_17.length c0_17] 43 (0, 0)) (by exact Zz.q5 BK146.out NB146_176.out) hb); have n2_ := Aside0.mk (blk_below (g := gb176) (o := .cells #[.int .i64 a0_13, .int .i64 a0_14, .int .i64 a0_15, .int .i64 a0_16, .slice A0_17 l0_17.length c0_17] 41 (0, 0)) (by (with_reducible repeat (first | refine blk_drewN ?_ _ | refine blk_drew ?_ | refine blk_alloc ?_ _)); exact Zz.u5_0_4 BK176.out) hb); have n3_ := Aside0.mk (below_step (Zz.i HB.out) hb); clear HO_6; clear BK146; clear BK176; clear HB; have HO_6 := n0_; have BK146 := n1_; have BK176 := n2_; have HB := n3_; clear n0_ n1_ n2_ n3_; (try clear hb); (try clear hk); have hcz113 := Zz.c5 BK176.out; have hfz113 := blk_frozen BK176.out))
        go_meet
        case rel => exact ⟨_, (true), Zz.q, H', ⟨by have := HJ2.out; have := HK2.out; have := HJ29.out; first | omega | exact Nat.le_refl _⟩, ⟨Zz.p BK146.out⟩, ⟨Zz.p BK176.out⟩, ⟨Zz.i HB.out⟩⟩
       replace c89 := Bool.eq_false_iff.mpr c89
       subst c89
       rw [if_neg Bool.false_ne_true] at H
       have H' := Aside0.mk H
       clear H
       go_wp2_with (first | ((with_reducible refine gate_callee (f := 21) rfl ?_); refine goesL_ (some 80) rfl rfl Try.func21 (by kernel_rfl) rfl #[.slice Ao80 x6_29.length co80] rfl Zz.g ?_; (with_reducible refine (wire_within.calls _ _ x6_29 true _ ?side1 ?side2 A86.out).mono ?_); (case side1 => refine (Kd.R_reads' (e := 3) (base := w.heap.size) (ok := fun k_ => True) (n := x6_29.length) (c := co80) ?_).2.2; exact (by (with_reducible repeat (first | apply Kd.R_alloc | apply Kd.R_drewN | apply Kd.R_drew)); exact (Kd.R_mono (Zz.f5 (Kd.R_types HO_6.out BK176.out (by first | decide | exact Kp.fp_ne (by decide))) (fun _ hk => hk.2)) (fun _ h_ => h_.1)))); (case side2 => exact (Kd.R_reads' HO_6.out).2.1); rintro e w' ⟨rfl, ⟨nd, rfl⟩⟩; refine ⟨_, rfl, ?_⟩; have hnb114 := NB146_176.out; have hnc114 := NB176_146.out; have hcz115 := Zz.c18 BK146.out; have hfz115 := blk_frozen BK146.out) | (go_at_call 42; (with_reducible refine (wire_bare.calls a0_0 a0_1 x147002_2 x147003_2 x147004_2 x147005_2 x147006_2 x147007_2 x147008_2 x147009_2 x147010_2 x147011_2 x147012_29 a0_13 a0_14 a0_15 a0_16 _ _ l0_17 false _ ?side1 ?side2 A88.out).mono ?_); (case side1 => exact Kd.C_below HR0_17.out (Zz.i HB.out)); (case side2 => exact HC0_17.out); rintro e w116 ⟨rfl, hb⟩; have n0_ := Aside0.mk (Kd.R_below (by (with_reducible repeat (first | apply Kd.R_alloc | apply Kd.R_drewN | apply Kd.R_drew)); exact (Kd.R_mono (Zz.f5 (Kd.R_types HO_6.out BK176.out (by first | decide | exact Kp.fp_ne (by decide))) (fun _ hk => hk.2)) (fun _ h_ => h_.1))) hb); have n1_ := Aside0.mk (blk_below (g := gb146) (o := .cells #[.int .i64 a0_0, .int .i64 a0_1, .int .i64 x147002_2, .int .i64 x147003_2, .int .i64 x147004_2, .int .i64 x147005_2, .int .i64 x147006_2, .int .i64 x147007_2, .int .i64 x147008_2, .int .i64 x147009_2, .int .i64 x147010_2, .int .i64 x147011_2, .bool x147012_29, .int .i64 a0_13, .int .i64 a0_14, .int .i64 a0_15, .int .i64 a0_16, .slice A0_17 l0_17.length c0_17] 43 (0, 0)) (by exact Zz.q5 BK146.out NB146_176.out) hb); have n2_ := Aside0.mk (blk_below (g := gb176) (o := .cells #[.int .i64 a0_13, .int .i64 a0_14, .int .i64 a0_15, .int .i64 a0_16, .slice A0_17 l0_17.length c0_17] 41 (0, 0)) (by (with_reducible repeat (first | refine blk_drewN ?_ _ | refine blk_drew ?_ | refine blk_alloc ?_ _)); exact Zz.u5_0_4 BK176.out) hb); have n3_ := Aside0.mk (below_step (Zz.i HB.out) hb); clear HO_6; clear BK146; clear BK176; clear HB; have HO_6 := n0_; have BK146 := n1_; have BK176 := n2_; have HB := n3_; clear n0_ n1_ n2_ n3_; (try clear hb); (try clear hk)))
       go_meet
       case rel => exact ⟨_, (true), Zz.q, H', ⟨by have := HJ2.out; have := HK2.out; have := HJ29.out; first | omega | exact Nat.le_refl _⟩, ⟨Zz.p BK146.out⟩, ⟨Zz.p BK176.out⟩, ⟨Zz.i HB.out⟩⟩
      replace c87 := Bool.eq_false_iff.mpr c87
      subst c87
      rw [if_neg Bool.false_ne_true] at H
      have H' := Aside0.mk H
      clear H
      go_wp2_with (first | ((with_reducible refine gate_callee (f := 21) rfl ?_); refine goesL_ (some 80) rfl rfl Try.func21 (by kernel_rfl) rfl #[.slice Ao80 x6_29.length co80] rfl Zz.g ?_; (with_reducible refine (wire_within.calls _ _ x6_29 false _ ?side1 ?side2 A86.out).mono ?_); (case side1 => refine (Kd.R_reads' (e := 3) (base := w.heap.size) (ok := fun k_ => True) (n := x6_29.length) (c := co80) ?_).2.2; exact (by (with_reducible repeat (first | apply Kd.R_alloc | apply Kd.R_drewN | apply Kd.R_drew)); exact (Kd.R_mono (Zz.f5 (Kd.R_types HO_6.out BK176.out (by first | decide | exact Kp.fp_ne (by decide))) (fun _ hk => hk.2)) (fun _ h_ => h_.1)))); (case side2 => exact (Kd.R_reads' HO_6.out).2.1); rintro e w' ⟨rfl, ⟨nd, rfl⟩⟩; refine ⟨_, rfl, ?_⟩))
      go_meet
      case rel => exact ⟨_, (true), Zz.q, H', ⟨by have := HJ2.out; have := HK2.out; have := HJ29.out; first | omega | exact Nat.le_refl _⟩, ⟨by exact Zz.q5 BK146.out NB146_176.out⟩, ⟨by (with_reducible repeat (first | refine blk_drewN ?_ _ | refine blk_drew ?_ | refine blk_alloc ?_ _)); exact Zz.u5_0_4 BK176.out⟩, ⟨Zz.i HB.out⟩⟩
     clear HC79
     (try clear c1);(try clear p1);(try clear q1);(try clear hx1);(try clear c2);(try clear p2);(try clear c4);(try clear p6);(try clear c7);(try clear c8);(try clear c9);(try clear c10);(try clear c11);(try clear p15);(try clear q15);(try clear hx15);(try clear c21);(try clear c23);(try clear p24);(try clear p27);(try clear c40);(try clear c43);(try clear c43b0);(try clear c43b1);(try clear c45);(try clear c45b0);(try clear c45b1);(try clear c47);(try clear c74);(try clear c84);(try clear c87);(try clear c89);(try clear c90);(try clear c90b0);(try clear c90b1);(try clear c91);(try clear c91b0);(try clear c91b1);(try clear c92);(try clear c92b0);(try clear c92b1);(try clear c93);(try clear c93b0);(try clear c93b1);(try clear c94);(try clear c98);(try clear c102);(try clear c106);(try clear c110);(try clear c114);(try clear hcz101);(try clear hcz103);(try clear hcz105);(try clear hcz107);(try clear hcz109);(try clear hcz111);(try clear hcz113);(try clear hcz115);(try clear hcz37);(try clear hcz39);(try clear hcz41);(try clear hcz51);(try clear hcz54);(try clear hcz57);(try clear hcz64);(try clear hcz66);(try clear hcz68_0);(try clear hcz68_1);(try clear hcz68_10);(try clear hcz68_11);(try clear hcz68_12);(try clear hcz68_13);(try clear hcz68_14);(try clear hcz68_15);(try clear hcz68_16);(try clear hcz68_17);(try clear hcz68_2);(try clear hcz68_3);(try clear hcz68_4);(try clear hcz68_5);(try clear hcz68_6);(try clear hcz68_7);(try clear hcz68_8);(try clear hcz68_9);(try clear hcz70_0);(try clear hcz70_1);(try clear hcz70_2);(try clear hcz70_3);(try clear hcz70_4);(try clear hcz72);(try clear hcz77);(try clear hcz82);(try clear hcz85);(try clear hcz8);(try clear hcz95);(try clear hcz97);(try clear hcz99);(try clear hfz101);(try clear hfz103);(try clear hfz105);(try clear hfz107);(try clear hfz109);(try clear hfz111);(try clear hfz113);(try clear hfz115);(try clear hfz13);(try clear hfz23);(try clear hfz26);(try clear hfz31);(try clear hfz35);(try clear hfz37);(try clear hfz39);(try clear hfz41);(try clear hfz51);(try clear hfz54);(try clear hfz57);(try clear hfz64);(try clear hfz66);(try clear hfz68_0);(try clear hfz68_1);(try clear hfz68_10);(try clear hfz68_11);(try clear hfz68_12);(try clear hfz68_13);(try clear hfz68_14);(try clear hfz68_15);(try clear hfz68_16);(try clear hfz68_17);(try clear hfz68_2);(try clear hfz68_3);(try clear hfz68_4);(try clear hfz68_5);(try clear hfz68_6);(try clear hfz68_7);(try clear hfz68_8);(try clear hfz68_9);(try clear hfz70_0);(try clear hfz70_1);(try clear hfz70_2);(try clear hfz70_3);(try clear hfz70_4);(try clear hfz72);(try clear hfz77);(try clear hfz82);(try clear hfz85);(try clear hfz8);(try clear hfz95);(try clear hfz97);(try clear hfz99);(try clear hx158_0);(try clear p158);(try clear q158)
     obtain ⟨kq, x112_78, rfl, HA, HJ78, BK146, BK176, HB⟩ := hcut
     cases kq with
     | zero => exact absurd HA.out (by simp [wire_EncodeAsk.j4])
     | succ kj78 =>
      have H := HA.out
      clear HA
      simp only [wire_EncodeAsk.j4] at H
      by_cases c117 : x112_78 = true
      ·subst c117
       rw [if_pos rfl] at H
       simp only [Option.some.injEq, Prod.mk.injEq] at H
       obtain ⟨rfl, rfl⟩ := H
       go_wp2
       go_ret2
       exact ⟨Zr.e, Zz.i HB.out⟩
      replace c117 := Bool.eq_false_iff.mpr c117
      subst c117
      rw [if_neg Bool.false_ne_true] at H
      simp only [Option.some.injEq, Prod.mk.injEq] at H
      obtain ⟨rfl, rfl⟩ := H
      go_wp2
      go_ret2
      exact ⟨Zr.e, Zz.i HB.out⟩

end Go.Proofs.Ytikbpjdgihheiaa.P
end
