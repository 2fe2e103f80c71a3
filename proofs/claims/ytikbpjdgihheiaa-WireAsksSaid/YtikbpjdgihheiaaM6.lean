-- Written by wip/mk.py of this repo: the kit's print program, with contracts of our own among its functions (merge.py: Px7).
import Derived.Test.YtikbpjdgihheiaaM0
import Derived.Test.YtikbpjdgihheiaaM2
import Derived.Test.YtikbpjdgihheiaaZz
import Derived.Test.YtikbpjdgihheiaaZr
section
namespace Go.Proofs.Ytikbpjdgihheiaa.P
open Go.RowKit Go.Proofs.YtikbpjdgihheiaaW.PrintWords Go.Proofs.YtikbpjdgihheiaaW.PrintLast Go.Proofs.YtikbpjdgihheiaaW.PrintMore
attribute [local go_sem] max2_int min2_int max_two min_two max_three min_three max_four min_four   -- for this text's walks alone
attribute [local go_sem ↓] Kp.LDAsk_in
attribute [local go_sem] Kp.LDAsk_run
set_option linter.unusedVariables false
set_option linter.unusedSimpArgs false

/-! ### batch_TakeRecord: function 26 -/
theorem batch_TakeRecord.far3 {W : World} {g : Nat} {a : Addr} {x : Option Value} (h : a.block ≠ g) {o0 o1 o2 : Nat} {v0 v1 v2 : Value} (e : W.cell? a = x) : (((W.setCell ⟨g, o0, none⟩ v0).setCell ⟨g, o1, none⟩ v1).setCell ⟨g, o2, none⟩ v2).cell? a = x := ((cell_far (p := ⟨g, o2, none⟩) h v2).trans ((cell_far (p := ⟨g, o1, none⟩) h v1).trans ((cell_far (p := ⟨g, o0, none⟩) h v0).trans e)))
def batch_TakeRecord.f (k : Nat) (a0 : ByteArray) : Option (Int × Int × ByteArray × ByteArray × Int) := (varint_TakeAll.f k a0 2).bind fun bt125 => (if bt125.2.2 = 0 then ((varint_TakeText.f bt125.2.1 512).bind fun bt130 => (if bt130.2.2 = 0 then (if 0 < (bt125.1.length : Int) then (if 1 < (bt125.1.length : Int) then ((batch_may.f (rd bt125.1 0) (rd bt125.1 1) bt130.1).bind fun t136 => (if t136 = true then (some (rd bt125.1 0, rd bt125.1 1, bt130.1, bt130.2.1, 0)) else (some (0, 0, (⟨#[]⟩ : ByteArray), (⟨#[]⟩ : ByteArray), 2)))) else (none)) else (none)) else (some (0, 0, (⟨#[]⟩ : ByteArray), (⟨#[]⟩ : ByteArray), 2)))) else (some (0, 0, (⟨#[]⟩ : ByteArray), (⟨#[]⟩ : ByteArray), bt125.2.2)))
theorem batch_TakeRecord.mono : ∀ a0 k, LeO (batch_TakeRecord.f k a0) (batch_TakeRecord.f (k + 1) a0) := by
  intro a0 k
  unfold batch_TakeRecord.f
  repeat' first
      | (with_reducible exact varint_TakeAll.mono _ _ _)
      | (with_reducible exact LeO.refl _)
      | (with_reducible exact LeO.none _)
      | (with_reducible refine LeO.ite ?_ ?_)
      | (with_reducible refine LeO.bind ?_ (fun _ => ?_))
      | exact varint_TakeAll.mono _ _ _
      | exact LeO.none _
      | refine LeO.ite ?_ ?_
      | refine LeO.bind ?_ (fun _ => ?_)
def batch_TakeRecord.T7 : Bool × List (List Nat × List Nat) := (true, [([], []), ([0], [0]), ([1], [1]), ([], []), ([3], [3]), ([4], [4]), ([], []), ([2, 5, 6], [2, 5, 6]), ([7, 0, 1, 2, 3, 4, 5, 6, 7], [7])])
def batch_TakeRecord.B7 : List Nat := [0, 1, 3, 0, 8, 24, 0, 127, 255]
theorem batch_TakeRecord.tab7 : rtab .any (opsOf Try.f26 7) = batch_TakeRecord.T7 := by kernel_rfl
theorem batch_TakeRecord.bits7 : waitsOk batch_TakeRecord.T7.2 batch_TakeRecord.B7 = true := by kernel_rfl
set_option maxHeartbeats 8000000 in
set_option maxRecDepth 100000 in
theorem batch_TakeRecord.calls (k : Nat) (a0 : ByteArray) (r1 : Int) (r2 : Int) (r3 : ByteArray) (r4 : ByteArray) (r5 : Int) (w : World) (h : batch_TakeRecord.f k a0 = some (r1, r2, r3, r4, r5)) :
    Calls Try.prog 26 #[.string a0] w fun e w' => e = .returned (.tuple #[.agg #[.int .i64 r1, .int .i64 r2, .string r3], .string r4, .int .i64 r5]) ∧ Below w.heap.size w w' := by
 have hu57 := Try.underlying57
 have HB := Aside0.mk (Below.refl w.heap.size w)
 have H : ((varint_TakeAll.f k a0 2).bind fun bt125 => (if bt125.2.2 = 0 then ((varint_TakeText.f bt125.2.1 512).bind fun bt130 => (if bt130.2.2 = 0 then (if 0 < (bt125.1.length : Int) then (if 1 < (bt125.1.length : Int) then ((batch_may.f (rd bt125.1 0) (rd bt125.1 1) bt130.1).bind fun t136 => (if t136 = true then (some (rd bt125.1 0, rd bt125.1 1, bt130.1, bt130.2.1, 0)) else (some (0, 0, (⟨#[]⟩ : ByteArray), (⟨#[]⟩ : ByteArray), 2)))) else (none)) else (none)) else (some (0, 0, (⟨#[]⟩ : ByteArray), (⟨#[]⟩ : ByteArray), 2)))) else (some (0, 0, (⟨#[]⟩ : ByteArray), (⟨#[]⟩ : ByteArray), bt125.2.2)))) = some (r1, r2, r3, r4, r5) := h
 clear h
 replace H := Option.bind_eq_some_iff.mp H
 obtain ⟨⟨t125, t126, t127⟩, A20, H⟩ := H
 try dsimp only at H
 have A2 := Aside0.mk A20
 clear A20
 by_cases c3 : t127 = 0
 ·rw [if_pos c3] at H
  obtain ⟨c3b0, c3b1⟩ := Zr.y c3
  clear c3
  replace H := Option.bind_eq_some_iff.mp H
  obtain ⟨⟨t130, t131, t132⟩, A40, H⟩ := H
  try dsimp only at H
  have A4 := Aside0.mk A40
  clear A40
  by_cases c5 : t132 = 0
  ·rw [if_pos c5] at H
   obtain ⟨c5b0, c5b1⟩ := Zr.y c5
   clear c5
   by_cases c6 : 0 < (t125.length : Int)
   ·rw [if_pos c6] at H
    have c6b0 : decide (0 < (t125.length : Int)) = true := decide_eq_true c6
    have c6b1 : decide (0 < t125.length) = true := decide_eq_true (by omega)
    clear c6
    by_cases c7 : 1 < (t125.length : Int)
    ·rw [if_pos c7] at H
     have c7b0 : decide (1 < (t125.length : Int)) = true := decide_eq_true c7
     have c7b1 : decide (1 < t125.length) = true := decide_eq_true (by omega)
     clear c7
     replace H := Option.bind_eq_some_iff.mp H
     obtain ⟨t136, A80, H⟩ := H
     try dsimp only at H
     have A8 := Aside0.mk A80
     clear A80
     by_cases c9 : t136 = true
     ·subst c9
      rw [if_pos rfl] at H
      simp only [Option.some.injEq, Prod.mk.injEq] at H
      obtain ⟨rfl, rfl, rfl, rfl, rfl⟩ := H
      go_enter Try.func26, Try.ntmps26
      try go_wp2_with (first | ((with_reducible refine gate_dst (N := 2) rfl ?_); refine box_event ?hg (N := 2) ?hd (cs := #[.int .i64 0, .int .i64 0, .string (⟨#[]⟩ : ByteArray)]) (t := 57) ?hr ?_; (case hd => rfl); (case hg => rfl); (case hr => first | (go_simp; done) | (go_simp; rfl)); intro gb124 hg w10 hbox hb; have BK124 := Aside0.mk (hbox); have GW124 := Aside0.mk (Zz.ge hg HB.out); have GE124 := Aside0.mk (Zz.ge hg HB.out); replace HB := Aside0.mk (below_step (Zz.i HB.out) hb); clear hb hbox hg) | ((with_reducible refine gate_callee (f := 32) rfl ?_); refine goesL_ (some 12) rfl rfl Try.func32 (by kernel_rfl) rfl #[.string a0, .int .i64 2] rfl Zz.g ?_; (with_reducible refine (varint_TakeAll.calls k a0 2 t125 t126 t127 _ A2.out).mono ?_); rintro e w11 ⟨v128, rfl, ho0, hb⟩; refine ⟨_, rfl, ?_⟩; have HO129 := Aside0.mk (Kd.R_lower ho0 (below_size (Zz.i HB.out))); replace BK124 := Aside0.mk (Zz.bb BK124.out hb); replace HB := Aside0.mk (below_step (Zz.i HB.out) hb); (try clear hb); (try clear ho0)) | ((with_reducible refine gate_callee (f := 48) rfl ?_); refine goesL_ (some 22) rfl rfl Try.func48 (by kernel_rfl) rfl #[.string t126, .int .i64 512] rfl Zz.g ?_; (with_reducible refine (varint_TakeText.calls t126 512 t130 t131 t132 _ A4.out).mono ?_); rintro e w' ⟨rfl, ⟨nd, rfl⟩⟩; refine ⟨_, rfl, ?_⟩; (try (rw [drewN_self w11]; generalize hq_ : World.drewN w11 _ = w11; replace HO129 := Aside0.mk (Zz.rq hq_ HO129.out); replace BK124 := Aside0.mk (Zz.pq hq_ BK124.out); replace HB := Aside0.mk (Zz.iq hq_ HB.out); clear hq_))) | ((with_reducible refine gate_dst (N := 9) rfl ?_); refine box_event ?hg (N := 9) ?hd (cs := #[.int .i64 0, .int .i64 0, .string (⟨#[]⟩ : ByteArray)]) (t := 57) ?hr ?_; (case hd => rfl); (case hg => rfl); (case hr => first | (go_simp; done) | (go_simp; rfl)); intro gb133 hg w12 hbox hb; replace HO129 := Aside0.mk (Kd.R_below (Zz.r HO129.out) hb); have BK133 := Aside0.mk (hbox); have GW133 := Aside0.mk (Zz.ge hg HB.out); have GE133 := Aside0.mk (Zz.ge hg HB.out); replace HB := Aside0.mk (below_step (Zz.i HB.out) hb); have NB124_133 := Aside0.mk (Zz.nl hg BK124.out); have NB133_124 := Aside0.mk (Zz.ng hg BK124.out); replace BK124 := Aside0.mk (Zz.bb BK124.out hb); clear hb hbox hg; have hnb13 := NB133_124.out; have hnc13 := NB124_133.out; have hcz14 := Zz.c3 BK133.out; have hfz14 := blk_frozen BK133.out))
      have n0_ : Aside0 (Kd.R (Kd.int .i64) 3 (((w12.setCell ⟨gb133, 0, none⟩ (.int .i64 0)).setCell ⟨gb133, 1, none⟩ (.int .i64 0)).setCell ⟨gb133, 2, none⟩ (.string (⟨#[]⟩ : ByteArray))) w.heap.size (fun _ => True) v128 t125) := ⟨by (with_reducible repeat (first | apply Kd.R_alloc | apply Kd.R_drewN | apply Kd.R_drew)); exact Kd.R_mono (Zz.f3 (Kd.R_types HO129.out BK133.out (by decide)) (fun _ hk => hk.2)) (fun _ hk => trivial)⟩
      have n1_ : Aside0 ((((w12.setCell ⟨gb133, 0, none⟩ (.int .i64 0)).setCell ⟨gb133, 1, none⟩ (.int .i64 0)).setCell ⟨gb133, 2, none⟩ (.string (⟨#[]⟩ : ByteArray))).heap[gb124]? = some (.cells #[.int .i64 0, .int .i64 0, .string (⟨#[]⟩ : ByteArray)] 57 (0, 0))) := ⟨by exact Zz.q3 BK124.out NB124_133.out⟩
      have n2_ : Aside0 ((((w12.setCell ⟨gb133, 0, none⟩ (.int .i64 0)).setCell ⟨gb133, 1, none⟩ (.int .i64 0)).setCell ⟨gb133, 2, none⟩ (.string (⟨#[]⟩ : ByteArray))).heap[gb133]? = some (.cells #[.int .i64 0, .int .i64 0, .string (⟨#[]⟩ : ByteArray)] 57 (0, 0))) := ⟨by (with_reducible repeat (first | refine blk_drewN ?_ _ | refine blk_drew ?_ | refine blk_alloc ?_ _)); exact Zz.u3_0_2 BK133.out⟩
      have n3_ : Aside0 (Below w.heap.size w (((w12.setCell ⟨gb133, 0, none⟩ (.int .i64 0)).setCell ⟨gb133, 1, none⟩ (.int .i64 0)).setCell ⟨gb133, 2, none⟩ (.string (⟨#[]⟩ : ByteArray)))) := ⟨Zz.i HB.out⟩
      (try clear HO129)
      (try clear BK124)
      (try clear BK133)
      (try clear HB)
      generalize (((w12.setCell ⟨gb133, 0, none⟩ (.int .i64 0)).setCell ⟨gb133, 1, none⟩ (.int .i64 0)).setCell ⟨gb133, 2, none⟩ (.string (⟨#[]⟩ : ByteArray))) = w15 at n0_ n1_ n2_ n3_ ⊢
      have HO129 := n0_
      have BK124 := n1_
      have BK133 := n2_
      have HB := n3_
      clear n0_ n1_ n2_ n3_
      have n0_ := Aside0.mk (Kd.R_drew HO129.out)
      have n1_ := Aside0.mk (blk_drew BK124.out)
      have n2_ := Aside0.mk (blk_drew BK133.out)
      have n3_ := Aside0.mk (below_drew1 HB.out)
      clear HO129
      clear BK124
      clear BK133
      clear HB
      have HO129 := n0_
      have BK124 := n1_
      have BK133 := n2_
      have HB := n3_
      clear n0_ n1_ n2_ n3_
      obtain ⟨Ao17, co17, eo17⟩ := Kd.R_slice HO129.out
      (first | subst eo17 | (injection eo17 with f1_ f2_ f3_; have f4_ := f1_.symm; have f5_ := f3_.symm; clear f1_ f2_ f3_; subst f4_; subst f5_))
      have p134 : 0 ≤ (0 : Int) := (by omega)
      have q134 : 0 < (t125.length : Int) := of_decide_eq_true (by first | (with_reducible assumption) | assumption)
      obtain ⟨ad134, e134, hx134_0⟩ := Kd.at_int (Kd.R_reads' HO129.out).2.2 0 p134 q134
      cases e134
      have qi134 : (0 < t125.length) = True := eq_true (by omega)
      (try rw [show ((0 : Int)).toNat = 0 from rfl] at hx134_0)
      (try rw [Addr.add_zero'] at hx134_0)
      replace p134 := eq_true p134
      replace q134 := eq_true q134
      have p135 : 0 ≤ (1 : Int) := (by omega)
      have q135 : 1 < (t125.length : Int) := of_decide_eq_true (by first | (with_reducible assumption) | assumption)
      obtain ⟨ad135, e135, hx135_0⟩ := Kd.at_int (Kd.R_reads' HO129.out).2.2 1 p135 q135
      obtain rfl : ad134 = ad135 := (by injection e135)
      (try simp only [show (1 : Int).toNat = 1 from rfl, Nat.reduceMul, Nat.reduceEqDiff, Go.Addr.add, ↓reduceIte] at hx135_0)
      have qi135 : (1 < t125.length) = True := eq_true (by omega)
      (try rw [show ((1 : Int)).toNat = 1 from rfl] at hx135_0)
      replace p135 := eq_true p135
      replace q135 := eq_true q135
      refine start_ (n := 9) (S := fun w' => w'.cell? ad134 = some (.int .i64 (rd t125 0)) ∧ w'.cell? ⟨ad134.block, ad134.off + 1, none⟩ = some (.int .i64 (rd t125 1))) (ds := []) #[false, false, false, false, false, false, false, false, false] (by kernel_rfl) rfl rfl ⟨hx134_0, hx135_0⟩ (fun hHeld => ?_); refine with_tabW batch_TakeRecord.tab7 batch_TakeRecord.bits7 (fun HT_ HW_ => ?_)
      generalize w15.drew = w16 at HO129 BK124 BK133 HB hx134_0 hx135_0 hHeld ⊢
      refine Zr.pu 0 29 HT_.out ?_
      refine Zr.pu 1 30 HT_.out ?_
      refine Zr.pu 3 32 HT_.out ?_
      refine Zr.pu 4 33 HT_.out ?_
      refine Zr.pu 6 35 HT_.out ?_
      refine Zr.ta 2 31 HT_.out HW_.out hHeld ?_
      refine Zr.ta 5 34 HT_.out HW_.out hHeld ?_
      refine Zr.pu 7 36 HT_.out ?_
      refine one_ (i := 8) (N := none) #[true, true, true, true, true, true, true, true, true] rfl rfl (one_of HT_.out (by kernel_rfl)) (by decide) (fun K hK => ?_)
      have hs18 : w16.cell? ⟨gb133, 0, none⟩ = some (.int .i64 0) := (blk_cell BK133.out 0).trans rfl
      have hfs18 := blk_frozen BK133.out 0
      have hns18_0 := NB124_133.out
      have hms18_0 := NB133_124.out
      have hs19 : w16.cell? ⟨gb133, 1, none⟩ = some (.int .i64 0) := (blk_cell BK133.out 1).trans rfl
      have hfs19 := blk_frozen BK133.out 1
      have hns19_0 := NB124_133.out
      have hms19_0 := NB133_124.out
      have hs20 : w16.cell? ⟨gb133, 2, none⟩ = some (.string (⟨#[]⟩ : ByteArray)) := (blk_cell BK133.out 2).trans rfl
      have hfs20 := blk_frozen BK133.out 2
      have hns20_0 := NB124_133.out
      have hms20_0 := NB133_124.out
      refine skip_ (w1 := ?_) (by rfl) rfl ?_ ?_
      rotate_left
      ·go_simp
       rfl
      refine hK.out _ _ ⟨(batch_TakeRecord.far3 (g := gb133) (by first | exact HNE0_133 | exact Kd.own_blk (Kd.R_ne HO129.out BK133.out (by decide)) | (rw [add_block]; exact Kd.own_blk (Kd.R_ne HO129.out BK133.out (by decide))) | (show (Addr.add _ _).block ≠ _; rw [add_block]; exact Kd.own_blk (Kd.R_ne HO129.out BK133.out (by decide))) | (dsimp only; exact Kd.own_blk (Kd.R_ne HO129.out BK133.out (by decide)))) (hHeld.1)), (batch_TakeRecord.far3 (g := gb133) (by first | exact HNE1_133 | exact Kd.own_blk (Kd.R_ne HO129.out BK133.out (by decide)) | (rw [add_block]; exact Kd.own_blk (Kd.R_ne HO129.out BK133.out (by decide))) | (show (Addr.add _ _).block ≠ _; rw [add_block]; exact Kd.own_blk (Kd.R_ne HO129.out BK133.out (by decide))) | (dsimp only; exact Kd.own_blk (Kd.R_ne HO129.out BK133.out (by decide)))) (hHeld.2))⟩ (fun hHeld => ?_)
      clear hK K
      refine done_ (done_of HT_.out (by kernel_rfl)) ?_
      have hcz21 := Zz.c3 BK133.out
      have hfz21 := blk_frozen BK133.out
      try go_wp2_with (first | (go_at_call 57; (with_reducible refine (batch_may.calls (rd t125 0) (rd t125 1) t130 true _ A8.out).mono ?_); rintro e w22 ⟨rfl, hb⟩; have n0_ := Aside0.mk (Kd.R_below (by (with_reducible repeat (first | apply Kd.R_alloc | apply Kd.R_drewN | apply Kd.R_drew)); exact (Kd.R_mono (Zz.f3 (Kd.R_types HO129.out BK133.out (by decide)) (fun _ hk => hk.2)) (fun _ h_ => h_.1))) hb); have n1_ := Aside0.mk (blk_below (g := gb124) (o := .cells #[.int .i64 0, .int .i64 0, .string (⟨#[]⟩ : ByteArray)] 57 (0, 0)) (by exact Zz.q3 BK124.out NB124_133.out) hb); have n2_ := Aside0.mk (blk_below (g := gb133) (o := .cells #[.int .i64 (rd t125 0), .int .i64 (rd t125 1), .string t130] 57 (0, 0)) (by (with_reducible repeat (first | refine blk_drewN ?_ _ | refine blk_drew ?_ | refine blk_alloc ?_ _)); exact Zz.u3_0_2 BK133.out) hb); have n3_ := Aside0.mk (below_step (Zz.i HB.out) hb); clear HO129; clear BK124; clear BK133; clear HB; have HO129 := n0_; have BK124 := n1_; have BK133 := n2_; have HB := n3_; clear n0_ n1_ n2_ n3_; (try clear hb); (try clear hk); have hcz23 := Zz.c3 BK133.out; have hfz23 := blk_frozen BK133.out; have hcz24 := Zz.c3 BK124.out; have hfz24 := blk_frozen BK124.out))
      refine bodyPost_ret (results_ctt rfl _ _ gb124 57 #[.int .i64 (rd t125 0), .int .i64 (rd t125 1), .string t130] (0, 0) _ rfl (by (with_reducible repeat (first | refine blk_drewN ?_ _ | refine blk_drew ?_ | refine blk_alloc ?_ _)); exact Zz.u3_0_2 BK124.out) Try.underlying57 rfl (by kernel_rfl)) rfl ?_
      exact ⟨Zr.e, Zz.i HB.out⟩
     replace c9 := Bool.eq_false_iff.mpr c9
     subst c9
     rw [if_neg Bool.false_ne_true] at H
     simp only [Option.some.injEq, Prod.mk.injEq] at H
     obtain ⟨rfl, rfl, rfl, rfl, rfl⟩ := H
     go_enter Try.func26, Try.ntmps26
     try go_wp2_with (first | ((with_reducible refine gate_dst (N := 2) rfl ?_); refine box_event ?hg (N := 2) ?hd (cs := #[.int .i64 0, .int .i64 0, .string (⟨#[]⟩ : ByteArray)]) (t := 57) ?hr ?_; (case hd => rfl); (case hg => rfl); (case hr => first | (go_simp; done) | (go_simp; rfl)); intro gb124 hg w25 hbox hb; have BK124 := Aside0.mk (hbox); have GW124 := Aside0.mk (Zz.ge hg HB.out); have GE124 := Aside0.mk (Zz.ge hg HB.out); replace HB := Aside0.mk (below_step (Zz.i HB.out) hb); clear hb hbox hg) | ((with_reducible refine gate_callee (f := 32) rfl ?_); refine goesL_ (some 12) rfl rfl Try.func32 (by kernel_rfl) rfl #[.string a0, .int .i64 2] rfl Zz.g ?_; (with_reducible refine (varint_TakeAll.calls k a0 2 t125 t126 t127 _ A2.out).mono ?_); rintro e w26 ⟨v128, rfl, ho0, hb⟩; refine ⟨_, rfl, ?_⟩; have HO129 := Aside0.mk (Kd.R_lower ho0 (below_size (Zz.i HB.out))); replace BK124 := Aside0.mk (Zz.bb BK124.out hb); replace HB := Aside0.mk (below_step (Zz.i HB.out) hb); (try clear hb); (try clear ho0)) | ((with_reducible refine gate_callee (f := 48) rfl ?_); refine goesL_ (some 22) rfl rfl Try.func48 (by kernel_rfl) rfl #[.string t126, .int .i64 512] rfl Zz.g ?_; (with_reducible refine (varint_TakeText.calls t126 512 t130 t131 t132 _ A4.out).mono ?_); rintro e w' ⟨rfl, ⟨nd, rfl⟩⟩; refine ⟨_, rfl, ?_⟩; (try (rw [drewN_self w26]; generalize hq_ : World.drewN w26 _ = w26; replace HO129 := Aside0.mk (Zz.rq hq_ HO129.out); replace BK124 := Aside0.mk (Zz.pq hq_ BK124.out); replace HB := Aside0.mk (Zz.iq hq_ HB.out); clear hq_))) | ((with_reducible refine gate_dst (N := 9) rfl ?_); refine box_event ?hg (N := 9) ?hd (cs := #[.int .i64 0, .int .i64 0, .string (⟨#[]⟩ : ByteArray)]) (t := 57) ?hr ?_; (case hd => rfl); (case hg => rfl); (case hr => first | (go_simp; done) | (go_simp; rfl)); intro gb133 hg w27 hbox hb; replace HO129 := Aside0.mk (Kd.R_below (Zz.r HO129.out) hb); have BK133 := Aside0.mk (hbox); have GW133 := Aside0.mk (Zz.ge hg HB.out); have GE133 := Aside0.mk (Zz.ge hg HB.out); replace HB := Aside0.mk (below_step (Zz.i HB.out) hb); have NB124_133 := Aside0.mk (Zz.nl hg BK124.out); have NB133_124 := Aside0.mk (Zz.ng hg BK124.out); replace BK124 := Aside0.mk (Zz.bb BK124.out hb); clear hb hbox hg; have hnb28 := NB133_124.out; have hnc28 := NB124_133.out; have hcz29 := Zz.c3 BK133.out; have hfz29 := blk_frozen BK133.out))
     have n0_ : Aside0 (Kd.R (Kd.int .i64) 3 (((w27.setCell ⟨gb133, 0, none⟩ (.int .i64 0)).setCell ⟨gb133, 1, none⟩ (.int .i64 0)).setCell ⟨gb133, 2, none⟩ (.string (⟨#[]⟩ : ByteArray))) w.heap.size (fun _ => True) v128 t125) := ⟨by (with_reducible repeat (first | apply Kd.R_alloc | apply Kd.R_drewN | apply Kd.R_drew)); exact Kd.R_mono (Zz.f3 (Kd.R_types HO129.out BK133.out (by decide)) (fun _ hk => hk.2)) (fun _ hk => trivial)⟩
     have n1_ : Aside0 ((((w27.setCell ⟨gb133, 0, none⟩ (.int .i64 0)).setCell ⟨gb133, 1, none⟩ (.int .i64 0)).setCell ⟨gb133, 2, none⟩ (.string (⟨#[]⟩ : ByteArray))).heap[gb124]? = some (.cells #[.int .i64 0, .int .i64 0, .string (⟨#[]⟩ : ByteArray)] 57 (0, 0))) := ⟨by exact Zz.q3 BK124.out NB124_133.out⟩
     have n2_ : Aside0 ((((w27.setCell ⟨gb133, 0, none⟩ (.int .i64 0)).setCell ⟨gb133, 1, none⟩ (.int .i64 0)).setCell ⟨gb133, 2, none⟩ (.string (⟨#[]⟩ : ByteArray))).heap[gb133]? = some (.cells #[.int .i64 0, .int .i64 0, .string (⟨#[]⟩ : ByteArray)] 57 (0, 0))) := ⟨by (with_reducible repeat (first | refine blk_drewN ?_ _ | refine blk_drew ?_ | refine blk_alloc ?_ _)); exact Zz.u3_0_2 BK133.out⟩
     have n3_ : Aside0 (Below w.heap.size w (((w27.setCell ⟨gb133, 0, none⟩ (.int .i64 0)).setCell ⟨gb133, 1, none⟩ (.int .i64 0)).setCell ⟨gb133, 2, none⟩ (.string (⟨#[]⟩ : ByteArray)))) := ⟨Zz.i HB.out⟩
     (try clear HO129)
     (try clear BK124)
     (try clear BK133)
     (try clear HB)
     generalize (((w27.setCell ⟨gb133, 0, none⟩ (.int .i64 0)).setCell ⟨gb133, 1, none⟩ (.int .i64 0)).setCell ⟨gb133, 2, none⟩ (.string (⟨#[]⟩ : ByteArray))) = w30 at n0_ n1_ n2_ n3_ ⊢
     have HO129 := n0_
     have BK124 := n1_
     have BK133 := n2_
     have HB := n3_
     clear n0_ n1_ n2_ n3_
     have n0_ := Aside0.mk (Kd.R_drew HO129.out)
     have n1_ := Aside0.mk (blk_drew BK124.out)
     have n2_ := Aside0.mk (blk_drew BK133.out)
     have n3_ := Aside0.mk (below_drew1 HB.out)
     clear HO129
     clear BK124
     clear BK133
     clear HB
     have HO129 := n0_
     have BK124 := n1_
     have BK133 := n2_
     have HB := n3_
     clear n0_ n1_ n2_ n3_
     obtain ⟨Ao32, co32, eo32⟩ := Kd.R_slice HO129.out
     (first | subst eo32 | (injection eo32 with f1_ f2_ f3_; have f4_ := f1_.symm; have f5_ := f3_.symm; clear f1_ f2_ f3_; subst f4_; subst f5_))
     have p134 : 0 ≤ (0 : Int) := (by omega)
     have q134 : 0 < (t125.length : Int) := of_decide_eq_true (by first | (with_reducible assumption) | assumption)
     obtain ⟨ad134, e134, hx134_0⟩ := Kd.at_int (Kd.R_reads' HO129.out).2.2 0 p134 q134
     cases e134
     have qi134 : (0 < t125.length) = True := eq_true (by omega)
     (try rw [show ((0 : Int)).toNat = 0 from rfl] at hx134_0)
     (try rw [Addr.add_zero'] at hx134_0)
     replace p134 := eq_true p134
     replace q134 := eq_true q134
     have p135 : 0 ≤ (1 : Int) := (by omega)
     have q135 : 1 < (t125.length : Int) := of_decide_eq_true (by first | (with_reducible assumption) | assumption)
     obtain ⟨ad135, e135, hx135_0⟩ := Kd.at_int (Kd.R_reads' HO129.out).2.2 1 p135 q135
     obtain rfl : ad134 = ad135 := (by injection e135)
     (try simp only [show (1 : Int).toNat = 1 from rfl, Nat.reduceMul, Nat.reduceEqDiff, Go.Addr.add, ↓reduceIte] at hx135_0)
     have qi135 : (1 < t125.length) = True := eq_true (by omega)
     (try rw [show ((1 : Int)).toNat = 1 from rfl] at hx135_0)
     replace p135 := eq_true p135
     replace q135 := eq_true q135
     refine start_ (n := 9) (S := fun w' => w'.cell? ad134 = some (.int .i64 (rd t125 0)) ∧ w'.cell? ⟨ad134.block, ad134.off + 1, none⟩ = some (.int .i64 (rd t125 1))) (ds := []) #[false, false, false, false, false, false, false, false, false] (by kernel_rfl) rfl rfl ⟨hx134_0, hx135_0⟩ (fun hHeld => ?_); refine with_tabW batch_TakeRecord.tab7 batch_TakeRecord.bits7 (fun HT_ HW_ => ?_)
     generalize w30.drew = w31 at HO129 BK124 BK133 HB hx134_0 hx135_0 hHeld ⊢
     refine Zr.pu 0 29 HT_.out ?_
     refine Zr.pu 1 30 HT_.out ?_
     refine Zr.pu 3 32 HT_.out ?_
     refine Zr.pu 4 33 HT_.out ?_
     refine Zr.pu 6 35 HT_.out ?_
     refine Zr.ta 2 31 HT_.out HW_.out hHeld ?_
     refine Zr.ta 5 34 HT_.out HW_.out hHeld ?_
     refine Zr.pu 7 36 HT_.out ?_
     refine one_ (i := 8) (N := none) #[true, true, true, true, true, true, true, true, true] rfl rfl (one_of HT_.out (by kernel_rfl)) (by decide) (fun K hK => ?_)
     have hs33 : w31.cell? ⟨gb133, 0, none⟩ = some (.int .i64 0) := (blk_cell BK133.out 0).trans rfl
     have hfs33 := blk_frozen BK133.out 0
     have hns33_0 := NB124_133.out
     have hms33_0 := NB133_124.out
     have hs34 : w31.cell? ⟨gb133, 1, none⟩ = some (.int .i64 0) := (blk_cell BK133.out 1).trans rfl
     have hfs34 := blk_frozen BK133.out 1
     have hns34_0 := NB124_133.out
     have hms34_0 := NB133_124.out
     have hs35 : w31.cell? ⟨gb133, 2, none⟩ = some (.string (⟨#[]⟩ : ByteArray)) := (blk_cell BK133.out 2).trans rfl
     have hfs35 := blk_frozen BK133.out 2
     have hns35_0 := NB124_133.out
     have hms35_0 := NB133_124.out
     refine skip_ (w1 := ?_) (by rfl) rfl ?_ ?_
     rotate_left
     ·go_simp
      rfl
     refine hK.out _ _ ⟨(batch_TakeRecord.far3 (g := gb133) (by first | exact HNE0_133 | exact Kd.own_blk (Kd.R_ne HO129.out BK133.out (by decide)) | (rw [add_block]; exact Kd.own_blk (Kd.R_ne HO129.out BK133.out (by decide))) | (show (Addr.add _ _).block ≠ _; rw [add_block]; exact Kd.own_blk (Kd.R_ne HO129.out BK133.out (by decide))) | (dsimp only; exact Kd.own_blk (Kd.R_ne HO129.out BK133.out (by decide)))) (hHeld.1)), (batch_TakeRecord.far3 (g := gb133) (by first | exact HNE1_133 | exact Kd.own_blk (Kd.R_ne HO129.out BK133.out (by decide)) | (rw [add_block]; exact Kd.own_blk (Kd.R_ne HO129.out BK133.out (by decide))) | (show (Addr.add _ _).block ≠ _; rw [add_block]; exact Kd.own_blk (Kd.R_ne HO129.out BK133.out (by decide))) | (dsimp only; exact Kd.own_blk (Kd.R_ne HO129.out BK133.out (by decide)))) (hHeld.2))⟩ (fun hHeld => ?_)
     clear hK K
     refine done_ (done_of HT_.out (by kernel_rfl)) ?_
     have hcz36 := Zz.c3 BK133.out
     have hfz36 := blk_frozen BK133.out
     try go_wp2_with (first | (go_at_call 57; (with_reducible refine (batch_may.calls (rd t125 0) (rd t125 1) t130 false _ A8.out).mono ?_); rintro e w37 ⟨rfl, hb⟩; have n0_ := Aside0.mk (Kd.R_below (by (with_reducible repeat (first | apply Kd.R_alloc | apply Kd.R_drewN | apply Kd.R_drew)); exact (Kd.R_mono (Zz.f3 (Kd.R_types HO129.out BK133.out (by decide)) (fun _ hk => hk.2)) (fun _ h_ => h_.1))) hb); have n1_ := Aside0.mk (blk_below (g := gb124) (o := .cells #[.int .i64 0, .int .i64 0, .string (⟨#[]⟩ : ByteArray)] 57 (0, 0)) (by exact Zz.q3 BK124.out NB124_133.out) hb); have n2_ := Aside0.mk (blk_below (g := gb133) (o := .cells #[.int .i64 (rd t125 0), .int .i64 (rd t125 1), .string t130] 57 (0, 0)) (by (with_reducible repeat (first | refine blk_drewN ?_ _ | refine blk_drew ?_ | refine blk_alloc ?_ _)); exact Zz.u3_0_2 BK133.out) hb); have n3_ := Aside0.mk (below_step (Zz.i HB.out) hb); clear HO129; clear BK124; clear BK133; clear HB; have HO129 := n0_; have BK124 := n1_; have BK133 := n2_; have HB := n3_; clear n0_ n1_ n2_ n3_; (try clear hb); (try clear hk); have hcz38 := Zz.c3 BK124.out; have hfz38 := blk_frozen BK124.out))
     refine bodyPost_ret (results_ctt rfl _ _ gb124 57 #[.int .i64 0, .int .i64 0, .string (⟨#[]⟩ : ByteArray)] (0, 0) _ rfl (by (with_reducible repeat (first | refine blk_drewN ?_ _ | refine blk_drew ?_ | refine blk_alloc ?_ _)); exact Zz.u3_0_2 BK124.out) Try.underlying57 rfl (by kernel_rfl)) rfl ?_
     exact ⟨Zr.e, Zz.i HB.out⟩
    rw [if_neg c7] at H
    exact absurd H (by simp)
   rw [if_neg c6] at H
   exact absurd H (by simp)
  rw [if_neg c5] at H
  obtain ⟨c5b0, c5b1⟩ := Zr.n c5
  simp only [Option.some.injEq, Prod.mk.injEq] at H
  obtain ⟨rfl, rfl, rfl, rfl, rfl⟩ := H
  go_enter Try.func26, Try.ntmps26
  go_wp2_with (first | ((with_reducible refine gate_dst (N := 2) rfl ?_); refine box_event ?hg (N := 2) ?hd (cs := #[.int .i64 0, .int .i64 0, .string (⟨#[]⟩ : ByteArray)]) (t := 57) ?hr ?_; (case hd => rfl); (case hg => rfl); (case hr => first | (go_simp; done) | (go_simp; rfl)); intro gb124 hg w39 hbox hb; have BK124 := Aside0.mk (hbox); have GW124 := Aside0.mk (Zz.ge hg HB.out); have GE124 := Aside0.mk (Zz.ge hg HB.out); replace HB := Aside0.mk (below_step (Zz.i HB.out) hb); clear hb hbox hg) | ((with_reducible refine gate_callee (f := 32) rfl ?_); refine goesL_ (some 12) rfl rfl Try.func32 (by kernel_rfl) rfl #[.string a0, .int .i64 2] rfl Zz.g ?_; (with_reducible refine (varint_TakeAll.calls k a0 2 t125 t126 t127 _ A2.out).mono ?_); rintro e w40 ⟨v128, rfl, ho0, hb⟩; refine ⟨_, rfl, ?_⟩; have HO129 := Aside0.mk (Kd.R_lower ho0 (below_size (Zz.i HB.out))); replace BK124 := Aside0.mk (Zz.bb BK124.out hb); replace HB := Aside0.mk (below_step (Zz.i HB.out) hb); (try clear hb); (try clear ho0)) | ((with_reducible refine gate_callee (f := 48) rfl ?_); refine goesL_ (some 22) rfl rfl Try.func48 (by kernel_rfl) rfl #[.string t126, .int .i64 512] rfl Zz.g ?_; (with_reducible refine (varint_TakeText.calls t126 512 t130 t131 t132 _ A4.out).mono ?_); rintro e w' ⟨rfl, ⟨nd, rfl⟩⟩; refine ⟨_, rfl, ?_⟩; (try (rw [drewN_self w40]; generalize hq_ : World.drewN w40 _ = w40; replace HO129 := Aside0.mk (Zz.rq hq_ HO129.out); replace BK124 := Aside0.mk (Zz.pq hq_ BK124.out); replace HB := Aside0.mk (Zz.iq hq_ HB.out); clear hq_))) | ((with_reducible refine gate_dst (N := 9) rfl ?_); refine box_event ?hg (N := 9) ?hd (cs := #[.int .i64 0, .int .i64 0, .string (⟨#[]⟩ : ByteArray)]) (t := 57) ?hr ?_; (case hd => rfl); (case hg => rfl); (case hr => first | (go_simp; done) | (go_simp; rfl)); intro gb133 hg w41 hbox hb; replace HO129 := Aside0.mk (Kd.R_below (Zz.r HO129.out) hb); have BK133 := Aside0.mk (hbox); have GW133 := Aside0.mk (Zz.ge hg HB.out); have GE133 := Aside0.mk (Zz.ge hg HB.out); replace HB := Aside0.mk (below_step (Zz.i HB.out) hb); have NB124_133 := Aside0.mk (Zz.nl hg BK124.out); have NB133_124 := Aside0.mk (Zz.ng hg BK124.out); replace BK124 := Aside0.mk (Zz.bb BK124.out hb); clear hb hbox hg; have hnb42 := NB133_124.out; have hnc42 := NB124_133.out; have hcz43 := Zz.c3 BK133.out; have hfz43 := blk_frozen BK133.out; have hcz44 := Zz.c3 BK124.out; have hfz44 := blk_frozen BK124.out))
  refine bodyPost_ret (results_ctt rfl _ _ gb124 57 #[.int .i64 0, .int .i64 0, .string (⟨#[]⟩ : ByteArray)] (0, 0) _ rfl (by (with_reducible repeat (first | refine blk_drewN ?_ _ | refine blk_drew ?_ | refine blk_alloc ?_ _)); refine blk_put (cs := #[.int .i64 0, .int .i64 0, .string (⟨#[]⟩ : ByteArray)]) ?_ 2 _ rfl; (with_reducible repeat (first | refine blk_drewN ?_ _ | refine blk_drew ?_ | refine blk_alloc ?_ _)); refine blk_put (cs := #[.int .i64 0, .int .i64 0, .string (⟨#[]⟩ : ByteArray)]) ?_ 1 _ rfl; (with_reducible repeat (first | refine blk_drewN ?_ _ | refine blk_drew ?_ | refine blk_alloc ?_ _)); refine blk_put (cs := #[.int .i64 0, .int .i64 0, .string (⟨#[]⟩ : ByteArray)]) ?_ 0 _ rfl; (with_reducible repeat (first | refine blk_drewN ?_ _ | refine blk_drew ?_ | refine blk_alloc ?_ _)); refine blk_far ?_ NB124_133.out _; (with_reducible repeat (first | refine blk_drewN ?_ _ | refine blk_drew ?_ | refine blk_alloc ?_ _)); refine blk_far ?_ NB124_133.out _; (with_reducible repeat (first | refine blk_drewN ?_ _ | refine blk_drew ?_ | refine blk_alloc ?_ _)); refine blk_far ?_ NB124_133.out _; (with_reducible repeat (first | refine blk_drewN ?_ _ | refine blk_drew ?_ | refine blk_alloc ?_ _)); exact BK124.out) Try.underlying57 rfl (by kernel_rfl)) rfl ?_
  exact ⟨Zr.e, Zz.i HB.out⟩
 rw [if_neg c3] at H
 obtain ⟨c3b0, c3b1⟩ := Zr.n c3
 simp only [Option.some.injEq, Prod.mk.injEq] at H
 obtain ⟨rfl, rfl, rfl, rfl, rfl⟩ := H
 go_enter Try.func26, Try.ntmps26
 go_wp2_with (first | ((with_reducible refine gate_dst (N := 2) rfl ?_); refine box_event ?hg (N := 2) ?hd (cs := #[.int .i64 0, .int .i64 0, .string (⟨#[]⟩ : ByteArray)]) (t := 57) ?hr ?_; (case hd => rfl); (case hg => rfl); (case hr => first | (go_simp; done) | (go_simp; rfl)); intro gb124 hg w45 hbox hb; have BK124 := Aside0.mk (hbox); have GW124 := Aside0.mk (Zz.ge hg HB.out); have GE124 := Aside0.mk (Zz.ge hg HB.out); replace HB := Aside0.mk (below_step (Zz.i HB.out) hb); clear hb hbox hg) | ((with_reducible refine gate_callee (f := 32) rfl ?_); refine goesL_ (some 12) rfl rfl Try.func32 (by kernel_rfl) rfl #[.string a0, .int .i64 2] rfl Zz.g ?_; (with_reducible refine (varint_TakeAll.calls k a0 2 t125 t126 t127 _ A2.out).mono ?_); rintro e w46 ⟨v128, rfl, ho0, hb⟩; refine ⟨_, rfl, ?_⟩; have HO129 := Aside0.mk (Kd.R_lower ho0 (below_size (Zz.i HB.out))); replace BK124 := Aside0.mk (Zz.bb BK124.out hb); replace HB := Aside0.mk (below_step (Zz.i HB.out) hb); (try clear hb); (try clear ho0); have hcz47 := Zz.c3 BK124.out; have hfz47 := blk_frozen BK124.out))
 refine bodyPost_ret (results_ctt rfl _ _ gb124 57 #[.int .i64 0, .int .i64 0, .string (⟨#[]⟩ : ByteArray)] (0, 0) _ rfl (by (with_reducible repeat (first | refine blk_drewN ?_ _ | refine blk_drew ?_ | refine blk_alloc ?_ _)); exact Zz.u3_0_2 BK124.out) Try.underlying57 rfl (by kernel_rfl)) rfl ?_
 exact ⟨Zr.e, Zz.i HB.out⟩

end Go.Proofs.Ytikbpjdgihheiaa.P
end
