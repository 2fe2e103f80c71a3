-- Written by wip/mk.py of this repo: the kit's print program, with contracts of our own among its functions (merge.py: Px38).
import Derived.Test.YtikbpjdgihheiaaM0
import Derived.Test.YtikbpjdgihheiaaM14
import Derived.Test.YtikbpjdgihheiaaM16
import Derived.Test.YtikbpjdgihheiaaM10
import Derived.Test.YtikbpjdgihheiaaZz
import Derived.Test.YtikbpjdgihheiaaZr
section
namespace Go.Proofs.Ytikbpjdgihheiaa.P
open Go.RowKit Go.Proofs.YtikbpjdgihheiaaW.PrintWords Go.Proofs.YtikbpjdgihheiaaW.PrintLast Go.Proofs.YtikbpjdgihheiaaW.PrintMore
attribute [local go_sem] max2_int min2_int max_two min_two max_three min_three max_four min_four   -- for this text's walks alone
attribute [local go_sem ↓] Kp.LDAsk_in
attribute [local go_sem] Kp.LDAsk_run
set_option linter.unusedVariables false
set_option linter.unusedSimpArgs false

/-! ### headgateref06_Decode: function 52 -/
theorem headgateref06_Decode.far5 {W : World} {g : Nat} {a : Addr} {x : Option Value} (h : a.block ≠ g) {o0 o1 o2 o3 o4 : Nat} {v0 v1 v2 v3 v4 : Value} (e : W.cell? a = x) : (((((W.setCell ⟨g, o0, none⟩ v0).setCell ⟨g, o1, none⟩ v1).setCell ⟨g, o2, none⟩ v2).setCell ⟨g, o3, none⟩ v3).setCell ⟨g, o4, none⟩ v4).cell? a = x := ((cell_far (p := ⟨g, o4, none⟩) h v4).trans ((cell_far (p := ⟨g, o3, none⟩) h v3).trans ((cell_far (p := ⟨g, o2, none⟩) h v2).trans ((cell_far (p := ⟨g, o1, none⟩) h v1).trans ((cell_far (p := ⟨g, o0, none⟩) h v0).trans e)))))
mutual
def headgateref06_Decode.j0 : Nat → List Int → ByteArray → Bool → Int → Int → Int → Int → Int → Int → Int → Int → Option (Int × Int × Int × Int × (List (S57)) × Int)
  | 0, _, _, _, _, _, _, _, _, _, _, _ => none
  | k + 1, x5, x6, x45, x536000, x536001, x536002, x536003, x546000, x546001, x546002, x546003 => if x45 = true then (some (x536000, x536001, x536002, x536003, ([] : List (S57)), 2)) else (headgateref06_Decode.l0 k x5 x6 0 x536000 x536001 x536002 x536003 x546000 x546001 x546002 x546003 ([] : List (S57)))
def headgateref06_Decode.l0 : Nat → List Int → ByteArray → Int → Int → Int → Int → Int → Int → Int → Int → Int → List (S57) → Option (Int × Int × Int × Int × (List (S57)) × Int)
  | 0, _, _, _, _, _, _, _, _, _, _, _, _ => none
  | k + 1, x5, x6, x9, x536000, x536001, x536002, x536003, x546000, x546001, x546002, x546003, x546004 => if 4 < (x5.length : Int) then (if x9 < (rd x5 4) then ((headgateref06_TakeRecord.f k x6).bind fun bt549 => (if bt549.2.2.2.2 = 0 then (if x546004.length < 4398046511104 then (headgateref06_Decode.l0 k x5 bt549.2.2.2.1 (wrap64 (x9 + 1)) x536000 x536001 x536002 x536003 x546000 x546001 x546002 x546003 (x546004 ++ [(⟨bt549.1, bt549.2.1, bt549.2.2.1⟩ : S57)])) else (none)) else (some (x536000, x536001, x536002, x536003, ([] : List (S57)), 2)))) else (if (x6.size : Int) > 0 then (some (x536000, x536001, x536002, x536003, ([] : List (S57)), 2)) else ((headgateref06_May.f k x546000 x546001 x546002 x546003 x546004).bind fun t558 => (if t558 = true then (some (x546000, x546001, x546002, x546003, x546004, 0)) else (some (x536000, x536001, x536002, x536003, ([] : List (S57)), 2)))))) else (none)
end
def headgateref06_Decode.f (k : Nat) (a0 : ByteArray) : Option (Int × Int × Int × Int × (List (S57)) × Int) := (headgateref01_TakeAll.f k a0 5).bind fun bt536 => (if bt536.2.2 = 0 then (if 0 < (bt536.1.length : Int) then (if 1 < (bt536.1.length : Int) then (if 2 < (bt536.1.length : Int) then (if 3 < (bt536.1.length : Int) then (if 4 < (bt536.1.length : Int) then (if (rd bt536.1 4) < 0 then (headgateref06_Decode.j0 k bt536.1 bt536.2.1 true 0 0 0 0 (rd bt536.1 0) (rd bt536.1 1) (rd bt536.1 2) (rd bt536.1 3)) else (headgateref06_Decode.j0 k bt536.1 bt536.2.1 (decide ((rd bt536.1 4) > 64)) 0 0 0 0 (rd bt536.1 0) (rd bt536.1 1) (rd bt536.1 2) (rd bt536.1 3))) else (none)) else (none)) else (none)) else (none)) else (none)) else (some (0, 0, 0, 0, ([] : List (S57)), 2)))
def headgateref06_Decode.T5 : Bool × List (List Nat × List Nat) := (true, [([], []), ([0], [0]), ([1], [1]), ([], []), ([3], [3]), ([4], [4]), ([], []), ([6], [6]), ([7], [7]), ([], []), ([9], [9]), ([10], [10]), ([2, 5, 8, 11], [2, 5, 8, 11]), ([], []), ([13, 12, 0, 1, 2, 3, 4, 5, 6, 7, 8, 9, 10, 11, 12, 13], [12, 13])])
def headgateref06_Decode.B5 : List Nat := [0, 1, 3, 0, 8, 24, 0, 64, 192, 0, 512, 1536, 4095, 0, 16383]
theorem headgateref06_Decode.tab5 : rtab .any (opsOf Try.f52 5) = headgateref06_Decode.T5 := by kernel_rfl
theorem headgateref06_Decode.bits5 : waitsOk headgateref06_Decode.T5.2 headgateref06_Decode.B5 = true := by kernel_rfl
set_option maxHeartbeats 8000000 in
set_option maxRecDepth 100000 in
theorem headgateref06_Decode.calls (k : Nat) (a0 : ByteArray) (r1 : Int) (r2 : Int) (r3 : Int) (r4 : Int) (r5 : List (S57)) (r6 : Int) (w : World) (h : headgateref06_Decode.f k a0 = some (r1, r2, r3, r4, r5, r6)) :
    Calls Try.prog 52 #[.string a0] w fun e w' => ∃ v4_ : Value, e = .returned (.tuple #[.agg #[.int .i64 r1, .int .i64 r2, .int .i64 r3, .int .i64 r4, v4_], .int .i64 r6]) ∧ Kd.R k57 57 w' w.heap.size (fun _ => True) v4_ r5 ∧ Below w.heap.size w w' := by
 have hu41 := Try.underlying41
 have hu57 := Try.underlying57
 have HB := Aside0.mk (Below.refl w.heap.size w)
 have H : ((headgateref01_TakeAll.f k a0 5).bind fun bt536 => (if bt536.2.2 = 0 then (if 0 < (bt536.1.length : Int) then (if 1 < (bt536.1.length : Int) then (if 2 < (bt536.1.length : Int) then (if 3 < (bt536.1.length : Int) then (if 4 < (bt536.1.length : Int) then (if (rd bt536.1 4) < 0 then (headgateref06_Decode.j0 k bt536.1 bt536.2.1 true 0 0 0 0 (rd bt536.1 0) (rd bt536.1 1) (rd bt536.1 2) (rd bt536.1 3)) else (headgateref06_Decode.j0 k bt536.1 bt536.2.1 (decide ((rd bt536.1 4) > 64)) 0 0 0 0 (rd bt536.1 0) (rd bt536.1 1) (rd bt536.1 2) (rd bt536.1 3))) else (none)) else (none)) else (none)) else (none)) else (none)) else (some (0, 0, 0, 0, ([] : List (S57)), 2)))) = some (r1, r2, r3, r4, r5, r6) := h
 clear h
 replace H := Option.bind_eq_some_iff.mp H
 obtain ⟨⟨t536, t537, t538⟩, A20, H⟩ := H
 try dsimp only at H
 have A2 := Aside0.mk A20
 clear A20
 by_cases c3 : t538 = 0
 ·rw [if_pos c3] at H
  obtain ⟨c3b0, c3b1⟩ := Zr.y c3
  clear c3
  by_cases c4 : 0 < (t536.length : Int)
  ·rw [if_pos c4] at H
   have c4b0 : decide (0 < (t536.length : Int)) = true := decide_eq_true c4
   have c4b1 : decide (0 < t536.length) = true := decide_eq_true (by omega)
   clear c4
   by_cases c5 : 1 < (t536.length : Int)
   ·rw [if_pos c5] at H
    have c5b0 : decide (1 < (t536.length : Int)) = true := decide_eq_true c5
    have c5b1 : decide (1 < t536.length) = true := decide_eq_true (by omega)
    clear c5
    by_cases c6 : 2 < (t536.length : Int)
    ·rw [if_pos c6] at H
     have c6b0 : decide (2 < (t536.length : Int)) = true := decide_eq_true c6
     have c6b1 : decide (2 < t536.length) = true := decide_eq_true (by omega)
     clear c6
     by_cases c7 : 3 < (t536.length : Int)
     ·rw [if_pos c7] at H
      have c7b0 : decide (3 < (t536.length : Int)) = true := decide_eq_true c7
      have c7b1 : decide (3 < t536.length) = true := decide_eq_true (by omega)
      clear c7
      have HC8 := Aside0.mk H
      clear H
      go_enter Try.func52, Try.ntmps52
      try go_wp2_with (first | ((with_reducible refine gate_dst (N := 2) rfl ?_); refine box_event ?hg (N := 2) ?hd (cs := #[.int .i64 0, .int .i64 0, .int .i64 0, .int .i64 0, .slice none 0 0]) (t := 41) ?hr ?_; (case hd => rfl); (case hg => rfl); (case hr => first | (go_simp; done) | (go_simp; rfl)); intro gb534 hg w9 hbox hb; have BK534 := Aside0.mk (hbox); have GW534 := Aside0.mk (Zz.ge hg HB.out); have GE534 := Aside0.mk (Zz.ge hg HB.out); replace HB := Aside0.mk (below_step (Zz.i HB.out) hb); clear hb hbox hg) | ((with_reducible refine gate_dst (N := 4) rfl ?_); refine box_event ?hg (N := 4) ?hd (cs := #[.int .i64 0, .int .i64 0, .int .i64 0, .int .i64 0, .slice none 0 0]) (t := 41) ?hr ?_; (case hd => rfl); (case hg => rfl); (case hr => first | (go_simp; done) | (go_simp; rfl)); intro gb535 hg w10 hbox hb; have BK535 := Aside0.mk (hbox); have GW535 := Aside0.mk (Zz.ge hg HB.out); have GE535 := Aside0.mk (Zz.ge hg HB.out); replace HB := Aside0.mk (below_step (Zz.i HB.out) hb); have NB534_535 := Aside0.mk (Zz.nl hg BK534.out); have NB535_534 := Aside0.mk (Zz.ng hg BK534.out); replace BK534 := Aside0.mk (Zz.bb BK534.out hb); clear hb hbox hg; have hnb11 := NB535_534.out; have hnc11 := NB534_535.out; have hcz12 := Zz.c5 BK535.out; have hfz12 := blk_frozen BK535.out) | ((with_reducible refine gate_callee (f := 34) rfl ?_); refine goesL_ (some 16) rfl rfl Try.func34 (by kernel_rfl) rfl #[.string a0, .int .i64 5] rfl Zz.g ?_; (with_reducible refine (headgateref01_TakeAll.calls k a0 5 t536 t537 t538 _ A2.out).mono ?_); rintro e w13 ⟨v539, rfl, ho0, hb⟩; refine ⟨_, rfl, ?_⟩; have n0_ := Aside0.mk (Kd.R_lower ho0 (below_size (Zz.i HB.out))); have n1_ := Aside0.mk (blk_below (g := gb534) (o := .cells #[.int .i64 0, .int .i64 0, .int .i64 0, .int .i64 0, .slice none 0 0] 41 (0, 0)) (by exact Zz.q5 BK534.out NB534_535.out) hb); have n2_ := Aside0.mk (blk_below (g := gb535) (o := .cells #[.int .i64 0, .int .i64 0, .int .i64 0, .int .i64 0, .slice none 0 0] 41 (0, 0)) (by (with_reducible repeat (first | refine blk_drewN ?_ _ | refine blk_drew ?_ | refine blk_alloc ?_ _)); exact Zz.u5_0_4 BK535.out) hb); have n3_ := Aside0.mk (below_step (Zz.i HB.out) hb); clear BK534; clear BK535; clear HB; have HO540 := n0_; have BK534 := n1_; have BK535 := n2_; have HB := n3_; clear n0_ n1_ n2_ n3_; (try clear hb); (try clear ho0)))
      have n0_ := Aside0.mk (Kd.R_drew HO540.out)
      have n1_ := Aside0.mk (blk_drew BK534.out)
      have n2_ := Aside0.mk (blk_drew BK535.out)
      have n3_ := Aside0.mk (below_drew1 HB.out)
      clear HO540
      clear BK534
      clear BK535
      clear HB
      have HO540 := n0_
      have BK534 := n1_
      have BK535 := n2_
      have HB := n3_
      clear n0_ n1_ n2_ n3_
      obtain ⟨Ao15, co15, eo15⟩ := Kd.R_slice HO540.out
      (first | subst eo15 | (injection eo15 with f1_ f2_ f3_; have f4_ := f1_.symm; have f5_ := f3_.symm; clear f1_ f2_ f3_; subst f4_; subst f5_))
      have p541 : 0 ≤ (0 : Int) := (by omega)
      have q541 : 0 < (t536.length : Int) := of_decide_eq_true (by first | (with_reducible assumption) | assumption)
      obtain ⟨ad541, e541, hx541_0⟩ := Kd.at_int (Kd.R_reads' HO540.out).2.2 0 p541 q541
      cases e541
      have qi541 : (0 < t536.length) = True := eq_true (by omega)
      (try rw [show ((0 : Int)).toNat = 0 from rfl] at hx541_0)
      (try rw [Addr.add_zero'] at hx541_0)
      replace p541 := eq_true p541
      replace q541 := eq_true q541
      have p542 : 0 ≤ (1 : Int) := (by omega)
      have q542 : 1 < (t536.length : Int) := of_decide_eq_true (by first | (with_reducible assumption) | assumption)
      obtain ⟨ad542, e542, hx542_0⟩ := Kd.at_int (Kd.R_reads' HO540.out).2.2 1 p542 q542
      obtain rfl : ad541 = ad542 := (by injection e542)
      (try simp only [show (1 : Int).toNat = 1 from rfl, Nat.reduceMul, Nat.reduceEqDiff, Go.Addr.add, ↓reduceIte] at hx542_0)
      have qi542 : (1 < t536.length) = True := eq_true (by omega)
      (try rw [show ((1 : Int)).toNat = 1 from rfl] at hx542_0)
      replace p542 := eq_true p542
      replace q542 := eq_true q542
      have p543 : 0 ≤ (2 : Int) := (by omega)
      have q543 : 2 < (t536.length : Int) := of_decide_eq_true (by first | (with_reducible assumption) | assumption)
      obtain ⟨ad543, e543, hx543_0⟩ := Kd.at_int (Kd.R_reads' HO540.out).2.2 2 p543 q543
      obtain rfl : ad541 = ad543 := (by injection e543)
      (try simp only [show (2 : Int).toNat = 2 from rfl, Nat.reduceMul, Nat.reduceEqDiff, Go.Addr.add, ↓reduceIte] at hx543_0)
      have qi543 : (2 < t536.length) = True := eq_true (by omega)
      (try rw [show ((2 : Int)).toNat = 2 from rfl] at hx543_0)
      replace p543 := eq_true p543
      replace q543 := eq_true q543
      have p544 : 0 ≤ (3 : Int) := (by omega)
      have q544 : 3 < (t536.length : Int) := of_decide_eq_true (by first | (with_reducible assumption) | assumption)
      obtain ⟨ad544, e544, hx544_0⟩ := Kd.at_int (Kd.R_reads' HO540.out).2.2 3 p544 q544
      obtain rfl : ad541 = ad544 := (by injection e544)
      (try simp only [show (3 : Int).toNat = 3 from rfl, Nat.reduceMul, Nat.reduceEqDiff, Go.Addr.add, ↓reduceIte] at hx544_0)
      have qi544 : (3 < t536.length) = True := eq_true (by omega)
      (try rw [show ((3 : Int)).toNat = 3 from rfl] at hx544_0)
      replace p544 := eq_true p544
      replace q544 := eq_true q544
      refine start_ (n := 15) (S := fun w' => w'.cell? ad541 = some (.int .i64 (rd t536 0)) ∧ w'.cell? ⟨ad541.block, ad541.off + 1, none⟩ = some (.int .i64 (rd t536 1)) ∧ w'.cell? ⟨ad541.block, ad541.off + 2, none⟩ = some (.int .i64 (rd t536 2)) ∧ w'.cell? ⟨ad541.block, ad541.off + 3, none⟩ = some (.int .i64 (rd t536 3))) (ds := []) #[false, false, false, false, false, false, false, false, false, false, false, false, false, false, false] (by kernel_rfl) rfl rfl ⟨hx541_0, hx542_0, hx543_0, hx544_0⟩ (fun hHeld => ?_); refine with_tabW headgateref06_Decode.tab5 headgateref06_Decode.bits5 (fun HT_ HW_ => ?_)
      generalize w13.drew = w14 at HO540 BK534 BK535 HB hx541_0 hx542_0 hx543_0 hx544_0 hHeld ⊢
      refine Zr.pu 0 23 HT_.out ?_
      refine Zr.pu 1 24 HT_.out ?_
      refine Zr.pu 3 26 HT_.out ?_
      refine Zr.pu 4 27 HT_.out ?_
      refine Zr.pu 6 29 HT_.out ?_
      refine Zr.pu 7 30 HT_.out ?_
      refine Zr.pu 9 32 HT_.out ?_
      refine Zr.pu 10 33 HT_.out ?_
      refine Zr.ta 2 25 HT_.out HW_.out hHeld ?_
      refine Zr.ta 5 28 HT_.out HW_.out hHeld ?_
      refine Zr.ta 8 31 HT_.out HW_.out hHeld ?_
      refine Zr.ta 11 34 HT_.out HW_.out hHeld ?_
      refine Zr.pu 12 35 HT_.out ?_
      refine one_ (i := 13) (N := some 8) #[true, true, true, true, true, true, true, true, true, true, true, true, true, true, false] rfl rfl (one_of HT_.out (by kernel_rfl)) (by decide) (fun K hK => ?_)
      refine box_step ?hg (N := 8) ?hd (cs := #[.int .i64 0, .int .i64 0, .int .i64 0, .int .i64 0, .slice none 0 0]) (t := 41) ?hr ?_; (case hd => rfl); (case hg => rfl); (case hr => first | (go_simp; done) | (go_simp; rfl))
      intro gb545 hg w16 hbox hb
      have HS0_ := (hb.cell (World.block_lt_of_cell? _ _ (hHeld.1))).trans (hHeld.1)
      have HS1_ := (hb.cell (World.block_lt_of_cell? _ _ (hHeld.2.1))).trans (hHeld.2.1)
      have HS2_ := (hb.cell (World.block_lt_of_cell? _ _ (hHeld.2.2.1))).trans (hHeld.2.2.1)
      have HS3_ := (hb.cell (World.block_lt_of_cell? _ _ (hHeld.2.2.2))).trans (hHeld.2.2.2)
      have HNE0_545 : (ad541 : Addr).block ≠ gb545 := (by rw [hg]; exact Nat.ne_of_lt (World.block_lt_of_cell? _ _ (hHeld.1)))
      have HNE1_545 : (⟨ad541.block, ad541.off + 1, none⟩ : Addr).block ≠ gb545 := (by rw [hg]; exact Nat.ne_of_lt (World.block_lt_of_cell? _ _ (hHeld.2.1)))
      have HNE2_545 : (⟨ad541.block, ad541.off + 2, none⟩ : Addr).block ≠ gb545 := (by rw [hg]; exact Nat.ne_of_lt (World.block_lt_of_cell? _ _ (hHeld.2.2.1)))
      have HNE3_545 : (⟨ad541.block, ad541.off + 3, none⟩ : Addr).block ≠ gb545 := (by rw [hg]; exact Nat.ne_of_lt (World.block_lt_of_cell? _ _ (hHeld.2.2.2)))
      have n0_ := Aside0.mk (Kd.R_below (Zz.r HO540.out) hb)
      have n1_ := Aside0.mk (Zz.bb BK534.out hb)
      have n2_ := Aside0.mk (Zz.bb BK535.out hb)
      have n3_ := Aside0.mk (below_step (Zz.i HB.out) hb)
      have n4_ := Aside0.mk (hbox)
      have n5_ := Aside0.mk (Zz.ge hg HB.out)
      have n6_ := Aside0.mk (Zz.ge hg HB.out)
      have n7_ := Aside0.mk (Zz.nl hg BK534.out)
      have n8_ := Aside0.mk (Zz.ng hg BK534.out)
      have n9_ := Aside0.mk (Zz.nl hg BK535.out)
      have n10_ := Aside0.mk (Zz.ng hg BK535.out)
      clear HO540
      clear BK534
      clear BK535
      clear HB
      have HO540 := n0_
      have BK534 := n1_
      have BK535 := n2_
      have HB := n3_
      have BK545 := n4_
      have GW545 := n5_
      have GE545 := n6_
      have NB534_545 := n7_
      have NB545_534 := n8_
      have NB535_545 := n9_
      have NB545_535 := n10_
      clear n0_ n1_ n2_ n3_ n4_ n5_ n6_ n7_ n8_ n9_ n10_
      clear hb hbox hg
      refine hK.out _ _ ⟨HS0_, HS1_, HS2_, HS3_⟩ (fun hHeld => ?_)
      clear hK K
      refine norm_ (a' := ?_) ?_ ?_
      rotate_left
      ·show Act.put _ (some 8) _ = _
       simp only [Act.put, List.setIfInBounds_toArray, List.set_cons_zero, List.set_cons_succ, i64_w, i32_w]
       rfl
      refine one_ (i := 14) (N := none) #[true, true, true, true, true, true, true, true, true, true, true, true, true, true, true] rfl rfl (one_of HT_.out (by kernel_rfl)) (by decide) (fun K hK => ?_)
      have hs17 : w16.cell? ⟨gb545, 0, none⟩ = some (.int .i64 0) := (blk_cell BK545.out 0).trans rfl
      have hfs17 := blk_frozen BK545.out 0
      have hns17_0 := NB534_545.out
      have hns17_1 := NB535_545.out
      have hms17_0 := NB545_534.out
      have hms17_1 := NB545_535.out
      have hs18 : w16.cell? ⟨gb545, 1, none⟩ = some (.int .i64 0) := (blk_cell BK545.out 1).trans rfl
      have hfs18 := blk_frozen BK545.out 1
      have hns18_0 := NB534_545.out
      have hns18_1 := NB535_545.out
      have hms18_0 := NB545_534.out
      have hms18_1 := NB545_535.out
      have hs19 : w16.cell? ⟨gb545, 2, none⟩ = some (.int .i64 0) := (blk_cell BK545.out 2).trans rfl
      have hfs19 := blk_frozen BK545.out 2
      have hns19_0 := NB534_545.out
      have hns19_1 := NB535_545.out
      have hms19_0 := NB545_534.out
      have hms19_1 := NB545_535.out
      have hs20 : w16.cell? ⟨gb545, 3, none⟩ = some (.int .i64 0) := (blk_cell BK545.out 3).trans rfl
      have hfs20 := blk_frozen BK545.out 3
      have hns20_0 := NB534_545.out
      have hns20_1 := NB535_545.out
      have hms20_0 := NB545_534.out
      have hms20_1 := NB545_535.out
      have hs21 : w16.cell? ⟨gb545, 4, none⟩ = some (.slice none 0 0) := (blk_cell BK545.out 4).trans rfl
      have hfs21 := blk_frozen BK545.out 4
      have hns21_0 := NB534_545.out
      have hns21_1 := NB535_545.out
      have hms21_0 := NB545_534.out
      have hms21_1 := NB545_535.out
      refine skip_ (w1 := ?_) (by rfl) rfl ?_ ?_
      rotate_left
      ·go_simp
       rfl
      refine hK.out _ _ ⟨(headgateref06_Decode.far5 (g := gb545) (by first | exact HNE0_545 | exact Kd.own_blk (Kd.R_ne HO540.out BK545.out (by decide)) | (rw [add_block]; exact Kd.own_blk (Kd.R_ne HO540.out BK545.out (by decide))) | (show (Addr.add _ _).block ≠ _; rw [add_block]; exact Kd.own_blk (Kd.R_ne HO540.out BK545.out (by decide))) | (dsimp only; exact Kd.own_blk (Kd.R_ne HO540.out BK545.out (by decide)))) (hHeld.1)), (headgateref06_Decode.far5 (g := gb545) (by first | exact HNE1_545 | exact Kd.own_blk (Kd.R_ne HO540.out BK545.out (by decide)) | (rw [add_block]; exact Kd.own_blk (Kd.R_ne HO540.out BK545.out (by decide))) | (show (Addr.add _ _).block ≠ _; rw [add_block]; exact Kd.own_blk (Kd.R_ne HO540.out BK545.out (by decide))) | (dsimp only; exact Kd.own_blk (Kd.R_ne HO540.out BK545.out (by decide)))) (hHeld.2.1)), (headgateref06_Decode.far5 (g := gb545) (by first | exact HNE2_545 | exact Kd.own_blk (Kd.R_ne HO540.out BK545.out (by decide)) | (rw [add_block]; exact Kd.own_blk (Kd.R_ne HO540.out BK545.out (by decide))) | (show (Addr.add _ _).block ≠ _; rw [add_block]; exact Kd.own_blk (Kd.R_ne HO540.out BK545.out (by decide))) | (dsimp only; exact Kd.own_blk (Kd.R_ne HO540.out BK545.out (by decide)))) (hHeld.2.2.1)), (headgateref06_Decode.far5 (g := gb545) (by first | exact HNE3_545 | exact Kd.own_blk (Kd.R_ne HO540.out BK545.out (by decide)) | (rw [add_block]; exact Kd.own_blk (Kd.R_ne HO540.out BK545.out (by decide))) | (show (Addr.add _ _).block ≠ _; rw [add_block]; exact Kd.own_blk (Kd.R_ne HO540.out BK545.out (by decide))) | (dsimp only; exact Kd.own_blk (Kd.R_ne HO540.out BK545.out (by decide)))) (hHeld.2.2.2))⟩ (fun hHeld => ?_)
      clear hK K
      refine done_ (done_of HT_.out (by kernel_rfl)) ?_
      go_upto_region 6 with (fail)
      go_cut [45] (fun v45 wc => ∃ (kq : Nat) (x45_7 : Bool), v45 = .bool x45_7 ∧ Aside0 (headgateref06_Decode.j0 kq t536 t537 x45_7 0 0 0 0 (rd t536 0) (rd t536 1) (rd t536 2) (rd t536 3) = some (r1, r2, r3, r4, r5, r6)) ∧ Aside0 (kq ≤ k) ∧ Aside0 (Kd.R (Kd.int .i64) 3 wc w.heap.size (fun _ => True) (.slice (some ad541) t536.length co15) t536) ∧ Aside0 (wc.heap[gb534]? = some (.cells #[.int .i64 0, .int .i64 0, .int .i64 0, .int .i64 0, (.slice none 0 0)] 41 (0, 0))) ∧ Aside0 (wc.heap[gb535]? = some (.cells #[.int .i64 0, .int .i64 0, .int .i64 0, .int .i64 0, (.slice none 0 0)] 41 (0, 0))) ∧ Aside0 (wc.heap[gb545]? = some (.cells #[.int .i64 (rd t536 0), .int .i64 (rd t536 1), .int .i64 (rd t536 2), .int .i64 (rd t536 3), (.slice none 0 0)] 41 (0, 0))) ∧ Aside0 (Below w.heap.size w wc))
      case first =>
       have H := HC8.out
       clear HC8
       by_cases c22 : 4 < (t536.length : Int)
       ·rw [if_pos c22] at H
        have c22b0 : decide (4 < (t536.length : Int)) = true := decide_eq_true c22
        have c22b1 : decide (4 < t536.length) = true := decide_eq_true (by omega)
        clear c22
        (first | rw [c22b0] | rw [c22b9] | (simp only [i64_w, i32_w]; rw [c22b0]) | skip)
        by_cases c23 : (rd t536 4) < 0
        ·rw [if_pos c23] at H
         have c23b0 : decide ((rd t536 4) < 0) = true := decide_eq_true c23
         clear c23
         have H' := Aside0.mk H
         clear H
         have p546 : 0 ≤ (4 : Int) := (by omega)
         have q546 : 4 < (t536.length : Int) := of_decide_eq_true (by first | (with_reducible assumption) | assumption)
         obtain ⟨ad546, e546, hx546_0⟩ := Kd.at_int (Kd.R_reads' HO540.out).2.2 4 p546 q546
         obtain rfl : ad541 = ad546 := (by injection e546)
         (try simp only [show (4 : Int).toNat = 4 from rfl, Nat.reduceMul, Nat.reduceEqDiff, Go.Addr.add, ↓reduceIte] at hx546_0)
         have qi546 : (4 < t536.length) = True := eq_true (by omega)
         (try rw [show ((4 : Int)).toNat = 4 from rfl] at hx546_0)
         have hn546_0 : ad541.block ≠ gb545 := Kd.own_blk (Kd.R_ne HO540.out BK545.out (by decide))
         have hn546_1 : ad541.block ≠ gb545 := Kd.own_blk (Kd.R_ne HO540.out BK545.out (by decide))
         have hn546_2 : ad541.block ≠ gb545 := Kd.own_blk (Kd.R_ne HO540.out BK545.out (by decide))
         have hn546_3 : ad541.block ≠ gb545 := Kd.own_blk (Kd.R_ne HO540.out BK545.out (by decide))
         have hn546_4 : ad541.block ≠ gb545 := Kd.own_blk (Kd.R_ne HO540.out BK545.out (by decide))
         replace hx546_0 := (cell_far (p := ⟨gb545, 0, none⟩) (by first | (rw [add_block]; exact hn546_0) | (show (Addr.add _ _).block ≠ _; rw [add_block]; exact hn546_0) | exact hn546_0) (.int .i64 (rd t536 0))).trans hx546_0
         replace hx546_0 := (cell_far (p := ⟨gb545, 1, none⟩) (by first | (rw [add_block]; exact hn546_1) | (show (Addr.add _ _).block ≠ _; rw [add_block]; exact hn546_1) | exact hn546_1) (.int .i64 (rd t536 1))).trans hx546_0
         replace hx546_0 := (cell_far (p := ⟨gb545, 2, none⟩) (by first | (rw [add_block]; exact hn546_2) | (show (Addr.add _ _).block ≠ _; rw [add_block]; exact hn546_2) | exact hn546_2) (.int .i64 (rd t536 2))).trans hx546_0
         replace hx546_0 := (cell_far (p := ⟨gb545, 3, none⟩) (by first | (rw [add_block]; exact hn546_3) | (show (Addr.add _ _).block ≠ _; rw [add_block]; exact hn546_3) | exact hn546_3) (.int .i64 (rd t536 3))).trans hx546_0
         replace hx546_0 := (cell_far (p := ⟨gb545, 4, none⟩) (by first | (rw [add_block]; exact hn546_4) | (show (Addr.add _ _).block ≠ _; rw [add_block]; exact hn546_4) | exact hn546_4) (.slice none 0 0)).trans hx546_0
         clear hn546_0
         clear hn546_1
         clear hn546_2
         clear hn546_3
         clear hn546_4
         replace p546 := eq_true p546
         replace q546 := eq_true q546
         go_wp2
         go_meet
         case rel => exact ⟨_, (true), Zz.q, H', ⟨by first | omega | exact Nat.le_refl _⟩, ⟨by (with_reducible repeat (first | apply Kd.R_alloc | apply Kd.R_drewN | apply Kd.R_drew)); exact Kd.R_mono (Zz.f5 (Kd.R_types HO540.out BK545.out (by decide)) (fun _ hk => hk.2)) (fun _ hk => trivial)⟩, ⟨by exact Zz.q5 BK534.out NB534_545.out⟩, ⟨by exact Zz.q5 BK535.out NB535_545.out⟩, ⟨by (with_reducible repeat (first | refine blk_drewN ?_ _ | refine blk_drew ?_ | refine blk_alloc ?_ _)); exact Zz.u5_0_4 BK545.out⟩, ⟨Zz.i HB.out⟩⟩
        rw [if_neg c23] at H
        have c23b0 : decide ((rd t536 4) < 0) = false := decide_eq_false c23
        clear c23
        have H' := Aside0.mk H
        clear H
        have p546 : 0 ≤ (4 : Int) := (by omega)
        have q546 : 4 < (t536.length : Int) := of_decide_eq_true (by first | (with_reducible assumption) | assumption)
        obtain ⟨ad546, e546, hx546_0⟩ := Kd.at_int (Kd.R_reads' HO540.out).2.2 4 p546 q546
        obtain rfl : ad541 = ad546 := (by injection e546)
        (try simp only [show (4 : Int).toNat = 4 from rfl, Nat.reduceMul, Nat.reduceEqDiff, Go.Addr.add, ↓reduceIte] at hx546_0)
        have qi546 : (4 < t536.length) = True := eq_true (by omega)
        (try rw [show ((4 : Int)).toNat = 4 from rfl] at hx546_0)
        have hn546_0 : ad541.block ≠ gb545 := Kd.own_blk (Kd.R_ne HO540.out BK545.out (by decide))
        have hn546_1 : ad541.block ≠ gb545 := Kd.own_blk (Kd.R_ne HO540.out BK545.out (by decide))
        have hn546_2 : ad541.block ≠ gb545 := Kd.own_blk (Kd.R_ne HO540.out BK545.out (by decide))
        have hn546_3 : ad541.block ≠ gb545 := Kd.own_blk (Kd.R_ne HO540.out BK545.out (by decide))
        have hn546_4 : ad541.block ≠ gb545 := Kd.own_blk (Kd.R_ne HO540.out BK545.out (by decide))
        replace hx546_0 := (cell_far (p := ⟨gb545, 0, none⟩) (by first | (rw [add_block]; exact hn546_0) | (show (Addr.add _ _).block ≠ _; rw [add_block]; exact hn546_0) | exact hn546_0) (.int .i64 (rd t536 0))).trans hx546_0
        replace hx546_0 := (cell_far (p := ⟨gb545, 1, none⟩) (by first | (rw [add_block]; exact hn546_1) | (show (Addr.add _ _).block ≠ _; rw [add_block]; exact hn546_1) | exact hn546_1) (.int .i64 (rd t536 1))).trans hx546_0
        replace hx546_0 := (cell_far (p := ⟨gb545, 2, none⟩) (by first | (rw [add_block]; exact hn546_2) | (show (Addr.add _ _).block ≠ _; rw [add_block]; exact hn546_2) | exact hn546_2) (.int .i64 (rd t536 2))).trans hx546_0
        replace hx546_0 := (cell_far (p := ⟨gb545, 3, none⟩) (by first | (rw [add_block]; exact hn546_3) | (show (Addr.add _ _).block ≠ _; rw [add_block]; exact hn546_3) | exact hn546_3) (.int .i64 (rd t536 3))).trans hx546_0
        replace hx546_0 := (cell_far (p := ⟨gb545, 4, none⟩) (by first | (rw [add_block]; exact hn546_4) | (show (Addr.add _ _).block ≠ _; rw [add_block]; exact hn546_4) | exact hn546_4) (.slice none 0 0)).trans hx546_0
        clear hn546_0
        clear hn546_1
        clear hn546_2
        clear hn546_3
        clear hn546_4
        replace p546 := eq_true p546
        replace q546 := eq_true q546
        have p547 : 0 ≤ (4 : Int) := (by omega)
        have q547 : 4 < (t536.length : Int) := of_decide_eq_true (by first | (with_reducible assumption) | assumption)
        obtain ⟨ad547, e547, hx547_0⟩ := Kd.at_int (Kd.R_reads' HO540.out).2.2 4 p547 q547
        obtain rfl : ad541 = ad547 := (by injection e547)
        (try simp only [show (4 : Int).toNat = 4 from rfl, Nat.reduceMul, Nat.reduceEqDiff, Go.Addr.add, ↓reduceIte] at hx547_0)
        have qi547 : (4 < t536.length) = True := eq_true (by omega)
        (try rw [show ((4 : Int)).toNat = 4 from rfl] at hx547_0)
        have hn547_0 : ad541.block ≠ gb545 := Kd.own_blk (Kd.R_ne HO540.out BK545.out (by decide))
        have hn547_1 : ad541.block ≠ gb545 := Kd.own_blk (Kd.R_ne HO540.out BK545.out (by decide))
        have hn547_2 : ad541.block ≠ gb545 := Kd.own_blk (Kd.R_ne HO540.out BK545.out (by decide))
        have hn547_3 : ad541.block ≠ gb545 := Kd.own_blk (Kd.R_ne HO540.out BK545.out (by decide))
        have hn547_4 : ad541.block ≠ gb545 := Kd.own_blk (Kd.R_ne HO540.out BK545.out (by decide))
        replace hx547_0 := (cell_far (p := ⟨gb545, 0, none⟩) (by first | (rw [add_block]; exact hn547_0) | (show (Addr.add _ _).block ≠ _; rw [add_block]; exact hn547_0) | exact hn547_0) (.int .i64 (rd t536 0))).trans hx547_0
        replace hx547_0 := (cell_far (p := ⟨gb545, 1, none⟩) (by first | (rw [add_block]; exact hn547_1) | (show (Addr.add _ _).block ≠ _; rw [add_block]; exact hn547_1) | exact hn547_1) (.int .i64 (rd t536 1))).trans hx547_0
        replace hx547_0 := (cell_far (p := ⟨gb545, 2, none⟩) (by first | (rw [add_block]; exact hn547_2) | (show (Addr.add _ _).block ≠ _; rw [add_block]; exact hn547_2) | exact hn547_2) (.int .i64 (rd t536 2))).trans hx547_0
        replace hx547_0 := (cell_far (p := ⟨gb545, 3, none⟩) (by first | (rw [add_block]; exact hn547_3) | (show (Addr.add _ _).block ≠ _; rw [add_block]; exact hn547_3) | exact hn547_3) (.int .i64 (rd t536 3))).trans hx547_0
        replace hx547_0 := (cell_far (p := ⟨gb545, 4, none⟩) (by first | (rw [add_block]; exact hn547_4) | (show (Addr.add _ _).block ≠ _; rw [add_block]; exact hn547_4) | exact hn547_4) (.slice none 0 0)).trans hx547_0
        clear hn547_0
        clear hn547_1
        clear hn547_2
        clear hn547_3
        clear hn547_4
        replace p547 := eq_true p547
        replace q547 := eq_true q547
        go_wp2
        go_meet
        case rel => exact ⟨_, (decide ((rd t536 4) > 64)), Zz.q, H', ⟨by first | omega | exact Nat.le_refl _⟩, ⟨by (with_reducible repeat (first | apply Kd.R_alloc | apply Kd.R_drewN | apply Kd.R_drew)); exact Kd.R_mono (Zz.f5 (Kd.R_types HO540.out BK545.out (by decide)) (fun _ hk => hk.2)) (fun _ hk => trivial)⟩, ⟨by exact Zz.q5 BK534.out NB534_545.out⟩, ⟨by exact Zz.q5 BK535.out NB535_545.out⟩, ⟨by (with_reducible repeat (first | refine blk_drewN ?_ _ | refine blk_drew ?_ | refine blk_alloc ?_ _)); exact Zz.u5_0_4 BK545.out⟩, ⟨Zz.i HB.out⟩⟩
       rw [if_neg c22] at H
       exact absurd H (by simp)
      clear HC8
      (try clear c1);(try clear c2);(try clear p2);(try clear c3);(try clear c3b0);(try clear c3b1);(try clear c4);(try clear c4b0);(try clear c4b1);(try clear c5);(try clear c5b0);(try clear c5b1);(try clear p5);(try clear q5);(try clear hx5);(try clear qi5);(try clear c6);(try clear c6b0);(try clear c6b1);(try clear c7);(try clear c7b0);(try clear c7b1);(try clear c11);(try clear c22);(try clear c22b0);(try clear c22b1);(try clear c23);(try clear c23b0);(try clear hcz12);(try clear hfz12);(try clear hx541_0);(try clear hx542_0);(try clear hx543_0);(try clear hx544_0);(try clear hx546_0);(try clear hx547_0);(try clear p541);(try clear p542);(try clear p543);(try clear p544);(try clear p546);(try clear p547);(try clear q541);(try clear q542);(try clear q543);(try clear q544);(try clear q546);(try clear q547)
      obtain ⟨kq, x45_7, rfl, HA, HJ7, HO_5, BK534, BK535, BK545, HB⟩ := hcut
      cases kq with
      | zero => exact absurd HA.out (by simp [headgateref06_Decode.j0])
      | succ kj7 =>
       have H := HA.out
       clear HA
       simp only [headgateref06_Decode.j0] at H
       by_cases c24 : x45_7 = true
       ·subst c24
        rw [if_pos rfl] at H
        simp only [Option.some.injEq, Prod.mk.injEq] at H
        obtain ⟨rfl, rfl, rfl, rfl, rfl, rfl⟩ := H
        have hnb25 := NB535_534.out
        have hnc25 := NB534_535.out
        have hnb26 := NB535_545.out
        have hnc26 := NB545_535.out
        have hcz27 := Zz.c5 BK535.out
        have hfz27 := blk_frozen BK535.out
        have hnb28 := NB534_545.out
        have hnc28 := NB545_534.out
        have hcz29 := Zz.c5 BK534.out
        have hfz29 := blk_frozen BK534.out
        go_wp2
        refine bodyPost_ret (results_ct rfl _ _ gb534 41 #[.int .i64 0, .int .i64 0, .int .i64 0, .int .i64 0, .slice none 0 0] (0, 0) _ rfl (by (with_reducible repeat (first | refine blk_drewN ?_ _ | refine blk_drew ?_ | refine blk_alloc ?_ _)); exact Zz.u5_0_4 BK534.out) Try.underlying41 rfl (by kernel_rfl)) rfl ?_
        exact ⟨_, Zr.e, by first | exact Kd.R_nil _ _ _ _ _ | exact Kd.N_nil _ _ _ _ _ | exact Kd.V_nil _ _ _ _ _ | exact Kd.Q_nil _ _ _ _ _ | exact Kd.S_nil _ _ _ _ _, Zz.i HB.out⟩
       replace c24 := Bool.eq_false_iff.mpr c24
       subst c24
       rw [if_neg Bool.false_ne_true] at H
       have H' := Aside0.mk H
       clear H
       go_wp2
       go_loopg [6, 9] kj7 (fun kq v6 v9 w' => ∃ (x6_2 : ByteArray) (x9_2 : Int) (x535000_2 : Int) (x535001_2 : Int) (x535002_2 : Int) (x535003_2 : Int) (x546004_2 : List (S57)) (u546004 : Value), v6 = .string x6_2 ∧ v9 = .int .i64 x9_2 ∧ Aside0 (headgateref06_Decode.l0 kq t536 x6_2 x9_2 0 0 0 0 (rd t536 0) (rd t536 1) (rd t536 2) (rd t536 3) x546004_2 = some (r1, r2, r3, r4, r5, r6)) ∧ Aside0 (kq ≤ kj7) ∧ Aside0 (Kd.R (Kd.int .i64) 3 w' w.heap.size (fun _ => True) (.slice (some ad541) t536.length co15) t536) ∧ Aside0 (Kd.R k57 57 w' w.heap.size (fun _ => True) u546004 x546004_2) ∧ Aside0 (w'.heap[gb534]? = some (.cells #[.int .i64 x535000_2, .int .i64 x535001_2, .int .i64 x535002_2, .int .i64 x535003_2, (.slice none 0 0)] 41 (0, 0))) ∧ Aside0 (w'.heap[gb535]? = some (.cells #[.int .i64 0, .int .i64 0, .int .i64 0, .int .i64 0, (.slice none 0 0)] 41 (0, 0))) ∧ Aside0 (w'.heap[gb545]? = some (.cells #[.int .i64 (rd t536 0), .int .i64 (rd t536 1), .int .i64 (rd t536 2), .int .i64 (rd t536 3), u546004] 41 (0, 0))) ∧ Aside0 (Below w.heap.size w w'))
       case atStart => exact ⟨(t537), (0), (0), (0), (0), (0), (([] : List (S57))), (.slice none 0 0), Zz.q, Zz.q, H', ⟨Nat.le_refl _⟩, ⟨Zz.r HO_5.out⟩, ⟨by first | exact Kd.R_nil _ _ _ _ _ | exact Kd.N_nil _ _ _ _ _ | exact Kd.V_nil _ _ _ _ _ | exact Kd.Q_nil _ _ _ _ _ | exact Kd.S_nil _ _ _ _ _⟩, ⟨Zz.p BK534.out⟩, ⟨Zz.p BK535.out⟩, ⟨Zz.p BK545.out⟩, ⟨Zz.i HB.out⟩⟩
       case round =>
        clear H'
        (try clear c1);(try clear c2);(try clear p2);(try clear c3);(try clear c3b0);(try clear c3b1);(try clear c4);(try clear c4b0);(try clear c4b1);(try clear c5);(try clear c5b0);(try clear c5b1);(try clear p5);(try clear q5);(try clear hx5);(try clear qi5);(try clear c6);(try clear c6b0);(try clear c6b1);(try clear c7);(try clear c7b0);(try clear c7b1);(try clear c11);(try clear c22);(try clear c22b0);(try clear c22b1);(try clear c23);(try clear c23b0);(try clear c24);(try clear c25);(try clear c26);(try clear c28);(try clear hcz12);(try clear hcz27);(try clear hcz29);(try clear hfz12);(try clear hfz27);(try clear hfz29);(try clear hx541_0);(try clear hx542_0);(try clear hx543_0);(try clear hx544_0);(try clear hx546_0);(try clear hx547_0);(try clear p541);(try clear p542);(try clear p543);(try clear p544);(try clear p546);(try clear p547);(try clear q541);(try clear q542);(try clear q543);(try clear q544);(try clear q546);(try clear q547)
        obtain ⟨x6_2, x9_2, x535000_2, x535001_2, x535002_2, x535003_2, x546004_2, u546004, rfl, rfl, HA, HK2, HO_5, HO_546004, BK534, BK535, BK545, HB⟩ := hrel
        cases gk with
        | zero => exact absurd HA.out (by simp [headgateref06_Decode.l0])
        | succ k2 =>
         have H := HA.out
         clear HA
         simp only [headgateref06_Decode.l0] at H
         by_cases c30 : 4 < (t536.length : Int)
         ·rw [if_pos c30] at H
          have c30b0 : decide (4 < (t536.length : Int)) = true := decide_eq_true c30
          have c30b1 : decide (4 < t536.length) = true := decide_eq_true (by omega)
          clear c30
          by_cases c31 : x9_2 < (rd t536 4)
          ·rw [if_pos c31] at H
           have c31b0 : decide (x9_2 < (rd t536 4)) = true := decide_eq_true c31
           clear c31
           replace H := Option.bind_eq_some_iff.mp H
           obtain ⟨⟨t549, t550, t551, t552, t553⟩, A320, H⟩ := H
           try dsimp only at H
           have A32 := Aside0.mk A320
           clear A320
           by_cases c33 : t553 = 0
           ·rw [if_pos c33] at H
            obtain ⟨c33b0, c33b1⟩ := Zr.y c33
            clear c33
            by_cases c34 : x546004_2.length < 4398046511104
            ·rw [if_pos c34] at H
             have LMc34 := Aside0.mk c34
             clear c34
             obtain ⟨y555, hy555⟩ : ∃ y_ : List (S57), y_ = (x546004_2 ++ [(⟨t549, t550, t551⟩ : S57)]) := ⟨_, rfl⟩
             replace H : (headgateref06_Decode.l0 k2 t536 t552 (wrap64 (x9_2 + 1)) 0 0 0 0 (rd t536 0) (rd t536 1) (rd t536 2) (rd t536 3) y555) = some (r1, r2, r3, r4, r5, r6) := by first | (rw [hy555]; with_reducible exact H) | (have H2_ := (Option.bind_some _ _).symm.trans H; rw [hy555]; with_reducible exact H2_) | (have H2_ := (Option.bind_some _ _).symm.trans H; with_reducible exact H2_) | with_reducible exact H | (rw [hy555]; exact H) | exact H
             have Ny555 := Aside0.mk hy555
             clear hy555
             have H' := Aside0.mk H
             clear H
             have p548 : 0 ≤ (4 : Int) := (by omega)
             have q548 : 4 < (t536.length : Int) := of_decide_eq_true (by first | (with_reducible assumption) | assumption)
             obtain ⟨ad548, e548, hx548_0⟩ := Kd.at_int (Kd.R_reads' HO_5.out).2.2 4 p548 q548
             obtain rfl : ad541 = ad548 := (by injection e548)
             (try simp only [show (4 : Int).toNat = 4 from rfl, Nat.reduceMul, Nat.reduceEqDiff, Go.Addr.add, ↓reduceIte] at hx548_0)
             have qi548 : (4 < t536.length) = True := eq_true (by omega)
             (try rw [show ((4 : Int)).toNat = 4 from rfl] at hx548_0)
             replace p548 := eq_true p548
             replace q548 := eq_true q548
             go_wp2_with (first | ((with_reducible refine gate_callee (f := 36) rfl ?_); refine goesL_ (some 56) rfl rfl Try.func36 (by kernel_rfl) rfl #[.string x6_2] rfl Zz.g ?_; (with_reducible refine (headgateref06_TakeRecord.calls k2 x6_2 t549 t550 t551 t552 t553 _ A32.out).mono ?_); rintro e w35 ⟨rfl, hb⟩; refine ⟨_, rfl, ?_⟩; replace HO_5 := Aside0.mk (Kd.R_below (Zz.r HO_5.out) hb); replace HO_546004 := Aside0.mk (Kd.R_below (Zz.r HO_546004.out) hb); replace BK534 := Aside0.mk (Zz.bb BK534.out hb); replace BK535 := Aside0.mk (Zz.bb BK535.out hb); replace BK545 := Aside0.mk (Zz.bb BK545.out hb); replace HB := Aside0.mk (below_step (Zz.i HB.out) hb); (try clear hb)) | ((with_reducible refine gate_dst (N := 10) rfl ?_); refine box_event ?hg (N := 10) ?hd (cs := #[.int .i64 0, .int .i64 0, .string (⟨#[]⟩ : ByteArray)]) (t := 57) ?hr ?_; (case hd => rfl); (case hg => rfl); (case hr => first | (go_simp; done) | (go_simp; rfl)); intro gb554 hg w36 hbox hb; replace HO_5 := Aside0.mk (Kd.R_below (Zz.r HO_5.out) hb); replace HO_546004 := Aside0.mk (Kd.R_below (Kd.R_elderB (Zz.r HO_546004.out) gb554 (Nat.le_of_eq hg.symm)) hb); have BK554 := Aside0.mk (hbox); have GW554 := Aside0.mk (Zz.ge hg HB.out); have GE554 := Aside0.mk (Zz.ge hg HB.out); replace HB := Aside0.mk (below_step (Zz.i HB.out) hb); have NB534_554 := Aside0.mk (Zz.nl hg BK534.out); have NB554_534 := Aside0.mk (Zz.ng hg BK534.out); replace BK534 := Aside0.mk (Zz.bb BK534.out hb); have NB535_554 := Aside0.mk (Zz.nl hg BK535.out); have NB554_535 := Aside0.mk (Zz.ng hg BK535.out); replace BK535 := Aside0.mk (Zz.bb BK535.out hb); have NB545_554 := Aside0.mk (Zz.nl hg BK545.out); have NB554_545 := Aside0.mk (Zz.ng hg BK545.out); replace BK545 := Aside0.mk (Zz.bb BK545.out hb); clear hb hbox hg; have hnb37 := NB554_534.out; have hnc37 := NB534_554.out; have hnb38 := NB554_535.out; have hnc38 := NB535_554.out; have hnb39 := NB554_545.out; have hnc39 := NB545_554.out; have hcz40 := Zz.c3 BK554.out; have hfz40 := blk_frozen BK554.out; have hnb41 := NB545_534.out; have hnc41 := NB534_545.out; have hnb42 := NB545_535.out; have hnc42 := NB535_545.out; have hcz43 := Zz.c5 BK545.out; have hfz43 := blk_frozen BK545.out) | ((with_reducible refine gate_builtin (b := .append) (xs := #[.tmp 64, .tmp 66]) rfl ?_); at_builtin; refine Kd.R_append k57 (w0 := w) w.heap.size rfl (.tmp 64) (.tmp 66) 39 57 (.agg #[(.int .i64 0), (.int .i64 0), (.string ⟨#[]⟩)]) 32 rfl Try.underlying39 info57 rfl (by decide) (by omega) u546004 x546004_2 (⟨t549, t550, t551⟩ : S57) [.int .i64 t549, .int .i64 t550, .string t551] (fun k_ => k_ ≠ gb554) (fun _ => False) rfl (by first | (go_simp; done) | (go_simp; rfl)) ?aP (fun _ hk => hk.elim) ?aF ?aO ?aB ?aS ?aL ?_; (case aP => exact k57_mkM _ _ _ (⟨t549, t550, t551⟩ : S57)); (case aB => exact (Zz.i HB.out)); (case aF => exact (fun k_ hk => Kd.freshB (g := gb554) (o := .cells #[.int .i64 t549, .int .i64 t550, .string t551] 57 (0, 0)) (by (with_reducible repeat (first | refine blk_drewN ?_ _ | refine blk_drew ?_ | refine blk_alloc ?_ _)); exact Zz.u3_0_2 BK554.out) k_ hk)); (case aO => exact (by (with_reducible repeat (first | apply Kd.R_alloc | apply Kd.R_drewN | apply Kd.R_drew)); exact Kd.R_mono (Zz.f3 (Kd.R_mono HO_546004.out (fun k_ hk => (⟨hk, hk.2⟩ : _ ∧ k_ ≠ gb554))) (fun _ hk => hk.2)) (fun _ hk => hk.1.2))); (case aS => exact (below_size (Zz.i HB.out))); (case aL => have := LMc34.out; omega); intro v556 w44 ho hb hg hat; rw [← Ny555.out] at ho; have n0_ := Aside0.mk (Kd.R_over' (by (with_reducible repeat (first | apply Kd.R_alloc | apply Kd.R_drewN | apply Kd.R_drew)); exact (Kd.R_mono (Zz.f3 (Kd.R_types HO_5.out BK554.out (by decide)) (fun _ hk => hk.2)) (fun _ h_ => h_.1))) (Kd.R_typed (by (with_reducible repeat (first | apply Kd.R_alloc | apply Kd.R_drewN | apply Kd.R_drew)); exact (Kd.R_mono (Zz.f3 (Kd.R_mono HO_546004.out (fun k_ hk => (⟨hk, hk.2⟩ : _ ∧ k_ ≠ gb554))) (fun _ hk => hk.2)) (fun _ h_ => h_.1)))) (by decide) hg); have n1_ := Aside0.mk (blk_grown (g := gb534) (o := .cells #[.int .i64 x535000_2, .int .i64 x535001_2, .int .i64 x535002_2, .int .i64 x535003_2, .slice none 0 0] 41 (0, 0)) (by exact Zz.q3 BK534.out NB534_554.out) hg (Kd.R_ne HO_546004.out BK534.out (by decide))); have n2_ := Aside0.mk (blk_grown (g := gb535) (o := .cells #[.int .i64 0, .int .i64 0, .int .i64 0, .int .i64 0, .slice none 0 0] 41 (0, 0)) (by exact Zz.q3 BK535.out NB535_554.out) hg (Kd.R_ne HO_546004.out BK535.out (by decide))); have n3_ := Aside0.mk (blk_grown (g := gb545) (o := .cells #[.int .i64 (rd t536 0), .int .i64 (rd t536 1), .int .i64 (rd t536 2), .int .i64 (rd t536 3), u546004] 41 (0, 0)) (by exact Zz.q3 BK545.out NB545_554.out) hg (Kd.R_ne HO_546004.out BK545.out (by decide))); have n4_ := Aside0.mk (blk_grown (g := gb554) (o := .cells #[.int .i64 t549, .int .i64 t550, .string t551] 57 (0, 0)) (by (with_reducible repeat (first | refine blk_drewN ?_ _ | refine blk_drew ?_ | refine blk_alloc ?_ _)); exact Zz.u3_0_2 BK554.out) hg (Kd.R_away HO_546004.out (fun _ hk => hk.2))); have n5_ := Aside0.mk (hb); have n6_ := Aside0.mk (ho); clear HO_5; clear BK534; clear BK535; clear BK545; clear BK554; clear HB; clear HO_546004; have HO_5 := n0_; have BK534 := n1_; have BK535 := n2_; have BK545 := n3_; have BK554 := n4_; have HB := n5_; have HO557 := n6_; clear n0_ n1_ n2_ n3_ n4_ n5_ n6_; clear ho hb hg hat; obtain ⟨Ao45, co45, eo45⟩ := Kd.R_slice HO557.out; subst eo45; have hcz46 := Zz.c5 BK545.out; have hfz46 := blk_frozen BK545.out))
             go_roundg k2
             case measure => have := HJ7.out; have := HK2.out; omega
             case rel => exact ⟨(t552), (wrap64 (x9_2 + 1)), (x535000_2), (x535001_2), (x535002_2), (x535003_2), (y555), (.slice Ao45 y555.length co45), Zz.q, Zz.q, H', ⟨by have := HJ7.out; have := HK2.out; omega⟩, ⟨by (with_reducible repeat (first | apply Kd.R_alloc | apply Kd.R_drewN | apply Kd.R_drew)); exact Kd.R_mono (Kd.R_far (p := ⟨gb545, 4, none⟩) (Kd.R_types HO_5.out BK545.out (by decide)) (fun _ hk => hk.2) (.slice Ao45 y555.length co45)) (fun _ hk => trivial)⟩, ⟨by (with_reducible repeat (first | apply Kd.R_alloc | apply Kd.R_drewN | apply Kd.R_drew)); exact Kd.R_mono (Kd.R_far (p := ⟨gb545, 4, none⟩) (Kd.R_types HO557.out BK545.out (by decide)) (fun _ hk => hk.2) (.slice Ao45 y555.length co45)) (fun _ hk => trivial)⟩, ⟨Zz.p1 BK534.out NB534_545.out⟩, ⟨Zz.p1 BK535.out NB535_545.out⟩, ⟨by (with_reducible repeat (first | refine blk_drewN ?_ _ | refine blk_drew ?_ | refine blk_alloc ?_ _)); refine blk_put (cs := #[.int .i64 (rd t536 0), .int .i64 (rd t536 1), .int .i64 (rd t536 2), .int .i64 (rd t536 3), u546004]) ?_ 4 _ rfl; (with_reducible repeat (first | refine blk_drewN ?_ _ | refine blk_drew ?_ | refine blk_alloc ?_ _)); exact BK545.out⟩, ⟨Zz.i HB.out⟩⟩
            rw [if_neg c34] at H
            exact absurd H (by simp)
           rw [if_neg c33] at H
           obtain ⟨c33b0, c33b1⟩ := Zr.n c33
           simp only [Option.some.injEq, Prod.mk.injEq] at H
           obtain ⟨rfl, rfl, rfl, rfl, rfl, rfl⟩ := H
           have p548 : 0 ≤ (4 : Int) := (by omega)
           have q548 : 4 < (t536.length : Int) := of_decide_eq_true (by first | (with_reducible assumption) | assumption)
           obtain ⟨ad548, e548, hx548_0⟩ := Kd.at_int (Kd.R_reads' HO_5.out).2.2 4 p548 q548
           obtain rfl : ad541 = ad548 := (by injection e548)
           (try simp only [show (4 : Int).toNat = 4 from rfl, Nat.reduceMul, Nat.reduceEqDiff, Go.Addr.add, ↓reduceIte] at hx548_0)
           have qi548 : (4 < t536.length) = True := eq_true (by omega)
           (try rw [show ((4 : Int)).toNat = 4 from rfl] at hx548_0)
           replace p548 := eq_true p548
           replace q548 := eq_true q548
           go_wp2_with (first | ((with_reducible refine gate_callee (f := 36) rfl ?_); refine goesL_ (some 56) rfl rfl Try.func36 (by kernel_rfl) rfl #[.string x6_2] rfl Zz.g ?_; (with_reducible refine (headgateref06_TakeRecord.calls k2 x6_2 t549 t550 t551 t552 t553 _ A32.out).mono ?_); rintro e w47 ⟨rfl, hb⟩; refine ⟨_, rfl, ?_⟩; replace HO_5 := Aside0.mk (Kd.R_below (Zz.r HO_5.out) hb); replace HO_546004 := Aside0.mk (Kd.R_below (Zz.r HO_546004.out) hb); replace BK534 := Aside0.mk (Zz.bb BK534.out hb); replace BK535 := Aside0.mk (Zz.bb BK535.out hb); replace BK545 := Aside0.mk (Zz.bb BK545.out hb); replace HB := Aside0.mk (below_step (Zz.i HB.out) hb); (try clear hb)) | ((with_reducible refine gate_dst (N := 10) rfl ?_); refine box_event ?hg (N := 10) ?hd (cs := #[.int .i64 0, .int .i64 0, .string (⟨#[]⟩ : ByteArray)]) (t := 57) ?hr ?_; (case hd => rfl); (case hg => rfl); (case hr => first | (go_simp; done) | (go_simp; rfl)); intro gb554 hg w48 hbox hb; replace HO_5 := Aside0.mk (Kd.R_below (Zz.r HO_5.out) hb); replace HO_546004 := Aside0.mk (Kd.R_below (Kd.R_elderB (Zz.r HO_546004.out) gb554 (Nat.le_of_eq hg.symm)) hb); have BK554 := Aside0.mk (hbox); have GW554 := Aside0.mk (Zz.ge hg HB.out); have GE554 := Aside0.mk (Zz.ge hg HB.out); replace HB := Aside0.mk (below_step (Zz.i HB.out) hb); have NB534_554 := Aside0.mk (Zz.nl hg BK534.out); have NB554_534 := Aside0.mk (Zz.ng hg BK534.out); replace BK534 := Aside0.mk (Zz.bb BK534.out hb); have NB535_554 := Aside0.mk (Zz.nl hg BK535.out); have NB554_535 := Aside0.mk (Zz.ng hg BK535.out); replace BK535 := Aside0.mk (Zz.bb BK535.out hb); have NB545_554 := Aside0.mk (Zz.nl hg BK545.out); have NB554_545 := Aside0.mk (Zz.ng hg BK545.out); replace BK545 := Aside0.mk (Zz.bb BK545.out hb); clear hb hbox hg; have hnb49 := NB554_534.out; have hnc49 := NB534_554.out; have hnb50 := NB554_535.out; have hnc50 := NB535_554.out; have hnb51 := NB554_545.out; have hnc51 := NB545_554.out; have hcz52 := Zz.c3 BK554.out; have hfz52 := blk_frozen BK554.out; have hnb53 := NB535_534.out; have hnc53 := NB534_535.out; have hnb54 := NB535_545.out; have hnc54 := NB545_535.out; have hcz55 := Zz.c5 BK535.out; have hfz55 := blk_frozen BK535.out; have hnb56 := NB534_545.out; have hnc56 := NB545_534.out; have hcz57 := Zz.c5 BK534.out; have hfz57 := blk_frozen BK534.out))
           refine bodyPost_ret (results_ct rfl _ _ gb534 41 #[.int .i64 0, .int .i64 0, .int .i64 0, .int .i64 0, .slice none 0 0] (0, 0) _ rfl (by (with_reducible repeat (first | refine blk_drewN ?_ _ | refine blk_drew ?_ | refine blk_alloc ?_ _)); refine blk_put (cs := #[.int .i64 0, .int .i64 0, .int .i64 0, .int .i64 0, .slice none 0 0]) ?_ 4 _ rfl; (with_reducible repeat (first | refine blk_drewN ?_ _ | refine blk_drew ?_ | refine blk_alloc ?_ _)); refine blk_put (cs := #[.int .i64 0, .int .i64 0, .int .i64 0, .int .i64 x535003_2, .slice none 0 0]) ?_ 3 _ rfl; (with_reducible repeat (first | refine blk_drewN ?_ _ | refine blk_drew ?_ | refine blk_alloc ?_ _)); refine blk_put (cs := #[.int .i64 0, .int .i64 0, .int .i64 x535002_2, .int .i64 x535003_2, .slice none 0 0]) ?_ 2 _ rfl; (with_reducible repeat (first | refine blk_drewN ?_ _ | refine blk_drew ?_ | refine blk_alloc ?_ _)); refine blk_put (cs := #[.int .i64 0, .int .i64 x535001_2, .int .i64 x535002_2, .int .i64 x535003_2, .slice none 0 0]) ?_ 1 _ rfl; (with_reducible repeat (first | refine blk_drewN ?_ _ | refine blk_drew ?_ | refine blk_alloc ?_ _)); refine blk_put (cs := #[.int .i64 x535000_2, .int .i64 x535001_2, .int .i64 x535002_2, .int .i64 x535003_2, .slice none 0 0]) ?_ 0 _ rfl; (with_reducible repeat (first | refine blk_drewN ?_ _ | refine blk_drew ?_ | refine blk_alloc ?_ _)); refine blk_far ?_ NB534_554.out _; (with_reducible repeat (first | refine blk_drewN ?_ _ | refine blk_drew ?_ | refine blk_alloc ?_ _)); refine blk_far ?_ NB534_554.out _; (with_reducible repeat (first | refine blk_drewN ?_ _ | refine blk_drew ?_ | refine blk_alloc ?_ _)); refine blk_far ?_ NB534_554.out _; (with_reducible repeat (first | refine blk_drewN ?_ _ | refine blk_drew ?_ | refine blk_alloc ?_ _)); exact BK534.out) Try.underlying41 rfl (by kernel_rfl)) rfl ?_
           exact ⟨_, Zr.e, by first | exact Kd.R_nil _ _ _ _ _ | exact Kd.N_nil _ _ _ _ _ | exact Kd.V_nil _ _ _ _ _ | exact Kd.Q_nil _ _ _ _ _ | exact Kd.S_nil _ _ _ _ _, Zz.i HB.out⟩
          rw [if_neg c31] at H
          have c31b0 : decide (x9_2 < (rd t536 4)) = false := decide_eq_false c31
          clear c31
          by_cases c58 : (x6_2.size : Int) > 0
          ·rw [if_pos c58] at H
           have c58b0 : decide (0 < (x6_2.size : Int)) = true := decide_eq_true c58
           have c58b1 : decide (0 < x6_2.size) = true := decide_eq_true (by omega)
           clear c58
           simp only [Option.some.injEq, Prod.mk.injEq] at H
           obtain ⟨rfl, rfl, rfl, rfl, rfl, rfl⟩ := H
           have p548 : 0 ≤ (4 : Int) := (by omega)
           have q548 : 4 < (t536.length : Int) := of_decide_eq_true (by first | (with_reducible assumption) | assumption)
           obtain ⟨ad548, e548, hx548_0⟩ := Kd.at_int (Kd.R_reads' HO_5.out).2.2 4 p548 q548
           obtain rfl : ad541 = ad548 := (by injection e548)
           (try simp only [show (4 : Int).toNat = 4 from rfl, Nat.reduceMul, Nat.reduceEqDiff, Go.Addr.add, ↓reduceIte] at hx548_0)
           have qi548 : (4 < t536.length) = True := eq_true (by omega)
           (try rw [show ((4 : Int)).toNat = 4 from rfl] at hx548_0)
           replace p548 := eq_true p548
           replace q548 := eq_true q548
           have hnb59 := NB535_534.out
           have hnc59 := NB534_535.out
           have hnb60 := NB535_545.out
           have hnc60 := NB545_535.out
           have hcz61 := Zz.c5 BK535.out
           have hfz61 := blk_frozen BK535.out
           have hnb62 := NB534_545.out
           have hnc62 := NB545_534.out
           have hcz63 := Zz.c5 BK534.out
           have hfz63 := blk_frozen BK534.out
           go_wp2
           refine bodyPost_ret (results_ct rfl _ _ gb534 41 #[.int .i64 0, .int .i64 0, .int .i64 0, .int .i64 0, .slice none 0 0] (0, 0) _ rfl (by (with_reducible repeat (first | refine blk_drewN ?_ _ | refine blk_drew ?_ | refine blk_alloc ?_ _)); exact Zz.u5_0_4 BK534.out) Try.underlying41 rfl (by kernel_rfl)) rfl ?_
           exact ⟨_, Zr.e, by first | exact Kd.R_nil _ _ _ _ _ | exact Kd.N_nil _ _ _ _ _ | exact Kd.V_nil _ _ _ _ _ | exact Kd.Q_nil _ _ _ _ _ | exact Kd.S_nil _ _ _ _ _, Zz.i HB.out⟩
          rw [if_neg c58] at H
          have c58b0 : decide (0 < (x6_2.size : Int)) = false := decide_eq_false c58
          have c58b1 : decide (0 < x6_2.size) = false := decide_eq_false (by omega)
          clear c58
          replace H := Option.bind_eq_some_iff.mp H
          obtain ⟨t558, A640, H⟩ := H
          try dsimp only at H
          have A64 := Aside0.mk A640
          clear A640
          by_cases c65 : t558 = true
          ·subst c65
           rw [if_pos rfl] at H
           simp only [Option.some.injEq, Prod.mk.injEq] at H
           obtain ⟨rfl, rfl, rfl, rfl, rfl, rfl⟩ := H
           have p548 : 0 ≤ (4 : Int) := (by omega)
           have q548 : 4 < (t536.length : Int) := of_decide_eq_true (by first | (with_reducible assumption) | assumption)
           obtain ⟨ad548, e548, hx548_0⟩ := Kd.at_int (Kd.R_reads' HO_5.out).2.2 4 p548 q548
           obtain rfl : ad541 = ad548 := (by injection e548)
           (try simp only [show (4 : Int).toNat = 4 from rfl, Nat.reduceMul, Nat.reduceEqDiff, Go.Addr.add, ↓reduceIte] at hx548_0)
           have qi548 : (4 < t536.length) = True := eq_true (by omega)
           (try rw [show ((4 : Int)).toNat = 4 from rfl] at hx548_0)
           replace p548 := eq_true p548
           replace q548 := eq_true q548
           have hnb66 := NB545_534.out
           have hnc66 := NB534_545.out
           have hnb67 := NB545_535.out
           have hnc67 := NB535_545.out
           have hcz68 := Zz.c5 BK545.out
           have hfz68 := blk_frozen BK545.out
           obtain ⟨Ao69, co69, eo69⟩ := Kd.R_slice HO_546004.out
           subst eo69
           go_wp2_with (first | (go_at_call 61; (with_reducible refine (headgateref06_May.calls k2 (rd t536 0) (rd t536 1) (rd t536 2) (rd t536 3) _ _ x546004_2 true _ ?side1 ?side2 A64.out).mono ?_); (case side1 => repeat (first | exact (Kd.R_reads' HO_546004.out).2.2 | (with_reducible refine Kd.C_alloc ?_ _) | (with_reducible refine Kd.C_drewN ?_ _) | (with_reducible refine Kd.C_drew ?_))); (case side2 => exact (Kd.R_reads' HO_546004.out).2.1); rintro e w70 ⟨rfl, hb⟩; replace HO_5 := Aside0.mk (Kd.R_below (Zz.r HO_5.out) hb); replace HO_546004 := Aside0.mk (Kd.R_below (Zz.r HO_546004.out) hb); replace BK534 := Aside0.mk (Zz.bb BK534.out hb); replace BK535 := Aside0.mk (Zz.bb BK535.out hb); replace BK545 := Aside0.mk (Zz.bb BK545.out hb); replace HB := Aside0.mk (below_step (Zz.i HB.out) hb); (try clear hb); have hcz71 := Zz.c5 BK545.out; have hfz71 := blk_frozen BK545.out; have hnb72 := NB534_535.out; have hnc72 := NB535_534.out; have hcz73 := Zz.c5 BK534.out; have hfz73 := blk_frozen BK534.out))
           refine bodyPost_ret (results_ct rfl _ _ gb534 41 #[.int .i64 (rd t536 0), .int .i64 (rd t536 1), .int .i64 (rd t536 2), .int .i64 (rd t536 3), .slice Ao69 x546004_2.length co69] (0, 0) _ rfl (by (with_reducible repeat (first | refine blk_drewN ?_ _ | refine blk_drew ?_ | refine blk_alloc ?_ _)); exact Zz.u5_0_4 BK534.out) Try.underlying41 rfl (by kernel_rfl)) rfl ?_
           exact ⟨_, Zr.e, by (with_reducible repeat (first | apply Kd.R_alloc | apply Kd.R_drewN | apply Kd.R_drew)); exact Kd.R_mono (Zz.f5 (Kd.R_types HO_546004.out BK534.out (by decide)) (fun _ hk => hk.2)) (fun _ hk => trivial), Zz.i HB.out⟩
          replace c65 := Bool.eq_false_iff.mpr c65
          subst c65
          rw [if_neg Bool.false_ne_true] at H
          simp only [Option.some.injEq, Prod.mk.injEq] at H
          obtain ⟨rfl, rfl, rfl, rfl, rfl, rfl⟩ := H
          have p548 : 0 ≤ (4 : Int) := (by omega)
          have q548 : 4 < (t536.length : Int) := of_decide_eq_true (by first | (with_reducible assumption) | assumption)
          obtain ⟨ad548, e548, hx548_0⟩ := Kd.at_int (Kd.R_reads' HO_5.out).2.2 4 p548 q548
          obtain rfl : ad541 = ad548 := (by injection e548)
          (try simp only [show (4 : Int).toNat = 4 from rfl, Nat.reduceMul, Nat.reduceEqDiff, Go.Addr.add, ↓reduceIte] at hx548_0)
          have qi548 : (4 < t536.length) = True := eq_true (by omega)
          (try rw [show ((4 : Int)).toNat = 4 from rfl] at hx548_0)
          replace p548 := eq_true p548
          replace q548 := eq_true q548
          have hnb74 := NB545_534.out
          have hnc74 := NB534_545.out
          have hnb75 := NB545_535.out
          have hnc75 := NB535_545.out
          have hcz76 := Zz.c5 BK545.out
          have hfz76 := blk_frozen BK545.out
          obtain ⟨Ao77, co77, eo77⟩ := Kd.R_slice HO_546004.out
          subst eo77
          go_wp2_with (first | (go_at_call 61; (with_reducible refine (headgateref06_May.calls k2 (rd t536 0) (rd t536 1) (rd t536 2) (rd t536 3) _ _ x546004_2 false _ ?side1 ?side2 A64.out).mono ?_); (case side1 => repeat (first | exact (Kd.R_reads' HO_546004.out).2.2 | (with_reducible refine Kd.C_alloc ?_ _) | (with_reducible refine Kd.C_drewN ?_ _) | (with_reducible refine Kd.C_drew ?_))); (case side2 => exact (Kd.R_reads' HO_546004.out).2.1); rintro e w78 ⟨rfl, hb⟩; replace HO_5 := Aside0.mk (Kd.R_below (Zz.r HO_5.out) hb); replace HO_546004 := Aside0.mk (Kd.R_below (Zz.r HO_546004.out) hb); replace BK534 := Aside0.mk (Zz.bb BK534.out hb); replace BK535 := Aside0.mk (Zz.bb BK535.out hb); replace BK545 := Aside0.mk (Zz.bb BK545.out hb); replace HB := Aside0.mk (below_step (Zz.i HB.out) hb); (try clear hb); have hnb79 := NB535_534.out; have hnc79 := NB534_535.out; have hcz80 := Zz.c5 BK535.out; have hfz80 := blk_frozen BK535.out; have hcz81 := Zz.c5 BK534.out; have hfz81 := blk_frozen BK534.out))
          refine bodyPost_ret (results_ct rfl _ _ gb534 41 #[.int .i64 0, .int .i64 0, .int .i64 0, .int .i64 0, .slice none 0 0] (0, 0) _ rfl (by (with_reducible repeat (first | refine blk_drewN ?_ _ | refine blk_drew ?_ | refine blk_alloc ?_ _)); exact Zz.u5_0_4 BK534.out) Try.underlying41 rfl (by kernel_rfl)) rfl ?_
          exact ⟨_, Zr.e, by first | exact Kd.R_nil _ _ _ _ _ | exact Kd.N_nil _ _ _ _ _ | exact Kd.V_nil _ _ _ _ _ | exact Kd.Q_nil _ _ _ _ _ | exact Kd.S_nil _ _ _ _ _, Zz.i HB.out⟩
         rw [if_neg c30] at H
         exact absurd H (by simp)
     rw [if_neg c7] at H
     exact absurd H (by simp)
    rw [if_neg c6] at H
    exact absurd H (by simp)
   rw [if_neg c5] at H
   exact absurd H (by simp)
  rw [if_neg c4] at H
  exact absurd H (by simp)
 rw [if_neg c3] at H
 obtain ⟨c3b0, c3b1⟩ := Zr.n c3
 simp only [Option.some.injEq, Prod.mk.injEq] at H
 obtain ⟨rfl, rfl, rfl, rfl, rfl, rfl⟩ := H
 go_enter Try.func52, Try.ntmps52
 go_wp2_with (first | ((with_reducible refine gate_dst (N := 2) rfl ?_); refine box_event ?hg (N := 2) ?hd (cs := #[.int .i64 0, .int .i64 0, .int .i64 0, .int .i64 0, .slice none 0 0]) (t := 41) ?hr ?_; (case hd => rfl); (case hg => rfl); (case hr => first | (go_simp; done) | (go_simp; rfl)); intro gb534 hg w82 hbox hb; have BK534 := Aside0.mk (hbox); have GW534 := Aside0.mk (Zz.ge hg HB.out); have GE534 := Aside0.mk (Zz.ge hg HB.out); replace HB := Aside0.mk (below_step (Zz.i HB.out) hb); clear hb hbox hg) | ((with_reducible refine gate_dst (N := 4) rfl ?_); refine box_event ?hg (N := 4) ?hd (cs := #[.int .i64 0, .int .i64 0, .int .i64 0, .int .i64 0, .slice none 0 0]) (t := 41) ?hr ?_; (case hd => rfl); (case hg => rfl); (case hr => first | (go_simp; done) | (go_simp; rfl)); intro gb535 hg w83 hbox hb; have BK535 := Aside0.mk (hbox); have GW535 := Aside0.mk (Zz.ge hg HB.out); have GE535 := Aside0.mk (Zz.ge hg HB.out); replace HB := Aside0.mk (below_step (Zz.i HB.out) hb); have NB534_535 := Aside0.mk (Zz.nl hg BK534.out); have NB535_534 := Aside0.mk (Zz.ng hg BK534.out); replace BK534 := Aside0.mk (Zz.bb BK534.out hb); clear hb hbox hg; have hnb84 := NB535_534.out; have hnc84 := NB534_535.out; have hcz85 := Zz.c5 BK535.out; have hfz85 := blk_frozen BK535.out) | ((with_reducible refine gate_callee (f := 34) rfl ?_); refine goesL_ (some 16) rfl rfl Try.func34 (by kernel_rfl) rfl #[.string a0, .int .i64 5] rfl Zz.g ?_; (with_reducible refine (headgateref01_TakeAll.calls k a0 5 t536 t537 t538 _ A2.out).mono ?_); rintro e w86 ⟨v539, rfl, ho0, hb⟩; refine ⟨_, rfl, ?_⟩; have n0_ := Aside0.mk (Kd.R_lower ho0 (below_size (Zz.i HB.out))); have n1_ := Aside0.mk (blk_below (g := gb534) (o := .cells #[.int .i64 0, .int .i64 0, .int .i64 0, .int .i64 0, .slice none 0 0] 41 (0, 0)) (by exact Zz.q5 BK534.out NB534_535.out) hb); have n2_ := Aside0.mk (blk_below (g := gb535) (o := .cells #[.int .i64 0, .int .i64 0, .int .i64 0, .int .i64 0, .slice none 0 0] 41 (0, 0)) (by (with_reducible repeat (first | refine blk_drewN ?_ _ | refine blk_drew ?_ | refine blk_alloc ?_ _)); exact Zz.u5_0_4 BK535.out) hb); have n3_ := Aside0.mk (below_step (Zz.i HB.out) hb); clear BK534; clear BK535; clear HB; have HO540 := n0_; have BK534 := n1_; have BK535 := n2_; have HB := n3_; clear n0_ n1_ n2_ n3_; (try clear hb); (try clear ho0); have hcz87 := Zz.c5 BK535.out; have hfz87 := blk_frozen BK535.out; have hcz88 := Zz.c5 BK534.out; have hfz88 := blk_frozen BK534.out))
 refine bodyPost_ret (results_ct rfl _ _ gb534 41 #[.int .i64 0, .int .i64 0, .int .i64 0, .int .i64 0, .slice none 0 0] (0, 0) _ rfl (by (with_reducible repeat (first | refine blk_drewN ?_ _ | refine blk_drew ?_ | refine blk_alloc ?_ _)); exact Zz.u5_0_4 BK534.out) Try.underlying41 rfl (by kernel_rfl)) rfl ?_
 exact ⟨_, Zr.e, by first | exact Kd.R_nil _ _ _ _ _ | exact Kd.N_nil _ _ _ _ _ | exact Kd.V_nil _ _ _ _ _ | exact Kd.Q_nil _ _ _ _ _ | exact Kd.S_nil _ _ _ _ _, Zz.i HB.out⟩

end Go.Proofs.Ytikbpjdgihheiaa.P
end
