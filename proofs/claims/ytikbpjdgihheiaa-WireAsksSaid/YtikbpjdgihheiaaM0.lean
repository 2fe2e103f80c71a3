-- Written by wip/mk.py of this repo: the kit's print program, with contracts of our own among its functions (merge.py: Px0 Px3).
import Derived.Test.YtikbpjdgihheiaaProg
import Derived.Below
import Derived.Deep.Draws
import Derived.Deep.AppendLies
import Derived.Maps.AppendAt
import Derived.OwnWalk
import Derived.Laws.BytesArg
import Derived.Laws.MakeOwn
import Derived.Laws.OwnMore
import Derived.Deep.OwnRows
import Derived.Tactics
import Derived.Lib.ConvBytes
import Derived.Laws.Slices
import Derived.WalkKit
import Derived.KernelRfl
import Derived.RowKit3
import Derived.Deep.LoopGhost
import Derived.Deep.QuietTactic
import Derived.BigQuiet
import Derived.WideLaws
import Derived.Deep.DeepCutAuto
import Derived.Deep.CutBlock
import Derived.Deep.RegionHeld3
import Derived.Laws.Rows
import Derived.Lib.AppendStr
import Derived.ArgAppend
import Derived.Laws.IdiomCopy
import Derived.OrdersHeld
import Derived.Laws.BitsLemmas
import Derived.RowKit
import Derived.Lib.Hide
import Derived.WalkMore
import Derived.Scope
import Derived.ScopeJumps
import Derived.Laws.Shifts
import Derived.Laws.ShiftsVar
import Derived.Laws.ShiftsVarLaws
import Derived.Laws.Bits
import Derived.Laws.BitsAll
import Derived.Laws.BitsAllLaws
import Derived.Laws.Bits64
import Derived.Laws.Alloc2
import Derived.Laws.NewBlocks
import Derived.Laws.IdiomArrays
import Derived.StillTailTactics
import Derived.BigRegion
import Derived.Shelf.Abstract
import Derived.Laws.IdiomStrings
import Derived.Laws.ComplexArith
import Derived.Test.YtikbpjdgihheiaaVm
import Derived.Test.YtikbpjdgihheiaaBld
import Derived.Test.YtikbpjdgihheiaaKp
import Derived.Test.YtikbpjdgihheiaaWWords
import Derived.Test.YtikbpjdgihheiaaWLast
import Derived.Test.YtikbpjdgihheiaaWTab
import Derived.Test.YtikbpjdgihheiaaWFour
import Derived.Test.YtikbpjdgihheiaaWQPut
import Derived.Test.YtikbpjdgihheiaaWApart
import Derived.Test.YtikbpjdgihheiaaWArr
import Derived.Test.YtikbpjdgihheiaaWZeros
import Derived.Test.YtikbpjdgihheiaaWFoot
import Derived.Test.YtikbpjdgihheiaaWKept
import Derived.Test.YtikbpjdgihheiaaWShare
import Derived.Test.YtikbpjdgihheiaaWN
import Derived.Test.YtikbpjdgihheiaaWFootNe
import Derived.Test.YtikbpjdgihheiaaWAt
import Derived.Test.YtikbpjdgihheiaaWEqStruct
import Derived.Test.YtikbpjdgihheiaaWRepsOne
import Derived.Test.YtikbpjdgihheiaaWInv
import Derived.Test.YtikbpjdgihheiaaWInvWords
import Derived.Test.YtikbpjdgihheiaaWGuard
import Derived.Test.YtikbpjdgihheiaaWNEv
import Derived.Test.YtikbpjdgihheiaaWMore
import Derived.Test.YtikbpjdgihheiaaZz
import Derived.Test.YtikbpjdgihheiaaZr
section
namespace Go.Proofs.Ytikbpjdgihheiaa.P
open Go.RowKit Go.Proofs.YtikbpjdgihheiaaW.PrintWords Go.Proofs.YtikbpjdgihheiaaW.PrintLast Go.Proofs.YtikbpjdgihheiaaW.PrintMore
attribute [local go_sem] max2_int min2_int max_two min_two max_three min_three max_four min_four   -- for this text's walks alone
attribute [local go_sem ↓] Kp.LDAsk_in
attribute [local go_sem] Kp.LDAsk_run
set_option linter.unusedVariables false
set_option linter.unusedSimpArgs false



def errW : Option Int → Value
  | none => .nilIface
  | some c => .iface 0 (.int .i64 c)
theorem errW_none : errW none = .nilIface := rfl
theorem errW_some (c : Int) : errW (some c) = .iface 0 (.int .i64 c) := rfl

theorem info3 : (Try.prog.info? 3).map (fun i => (i.zero, i.size, i.bytes)) = some (some (.int .i64 0), 1, 8) := by kernel_rfl
theorem info5 : (Try.prog.info? 5).map (fun i => (i.zero, i.size, i.bytes)) = some (some (.int .u8 0), 1, 1) := by kernel_rfl
theorem info57 : (Try.prog.info? 57).map (fun i => (i.zero, i.size, i.bytes)) = some (some (.agg #[(.int .i64 0), (.int .i64 0), (.string ⟨#[]⟩)]), 3, 32) := by kernel_rfl
theorem info59 : (Try.prog.info? 59).map (fun i => (i.zero, i.size, i.bytes)) = some (some (.agg #[(.int .i64 0), (.int .i64 0), (.int .i64 0), (.string ⟨#[]⟩)]), 4, 40) := by kernel_rfl
-- the values' own types
/-! #### struct type 57 -/
structure S57 where
  f0 : Int
  f1 : Int
  f2 : ByteArray
def z57 : S57 := ⟨(0 : Int), (0 : Int), (⟨#[]⟩ : ByteArray)⟩
def k57 : Kd S57 := Kd.iso (Kd.pair (Kd.int .i64) (Kd.pair (Kd.int .i64) Kd.string)) (fun x : S57 => (x.f0, x.f1, x.f2))
theorem k57_open {w : World} {x : S57} {cs : List Value} (h : k57.K w x cs) : cs = [.int .i64 x.f0, .int .i64 x.f1, .string x.f2] := by
  obtain ⟨_, _, rfl, rfl, ⟨_, _, rfl, rfl, rfl⟩⟩ := h
  exact rfl
theorem k57_openM {w : World} {base : Nat} {ok : Nat → Prop} {x : S57} {cs : List Value} (h : k57.M w base ok x cs) : cs = [.int .i64 x.f0, .int .i64 x.f1, .string x.f2] := by
  obtain ⟨_, _, rfl, rfl, ⟨_, _, rfl, rfl, rfl⟩⟩ := h
  exact rfl
theorem k57_mk (w : World) (x : S57)  : k57.K w x [.int .i64 x.f0, .int .i64 x.f1, .string x.f2] := ⟨[.int .i64 x.f0], [.int .i64 x.f1, .string x.f2], rfl, rfl, ⟨[.int .i64 x.f1], [.string x.f2], rfl, rfl, rfl⟩⟩
theorem k57_mkM (w : World) (base : Nat) (ok : Nat → Prop) (x : S57)  : k57.M w base ok x [.int .i64 x.f0, .int .i64 x.f1, .string x.f2] := ⟨[.int .i64 x.f0], [.int .i64 x.f1, .string x.f2], rfl, rfl, ⟨[.int .i64 x.f1], [.string x.f2], rfl, rfl, rfl⟩⟩
def rd_T57 (xs : List S57) (i : Int) : S57 := xs.getD i.toNat z57
theorem at_T57 {w : World} {A : Option Addr} {n : Nat} {xs : List S57} (h : Kd.C k57 w A n xs) (i : Int) (h0 : 0 ≤ i) (h1 : i < n) : ∃ ad , A = some ad ∧ w.cell? (ad.add (i.toNat * 3)) = some (.int .i64 (rd_T57 xs i).f0) ∧ w.cell? ⟨(ad.add (i.toNat * 3)).block, (ad.add (i.toNat * 3)).off + 1, none⟩ = some (.int .i64 (rd_T57 xs i).f1) ∧ w.cell? ⟨(ad.add (i.toNat * 3)).block, (ad.add (i.toNat * 3)).off + 2, none⟩ = some (.string (rd_T57 xs i).f2) := by
  obtain ⟨ad, c, e, _, hK, hc0⟩ := Kd.C_get h z57 i h0 h1
  have hc : ∀ j u, c[j]? = some u → w.cell? (ad.add (i.toNat * 3 + j)) = some u := hc0
  obtain rfl := k57_open hK
  exact ⟨ad, e, hc 0 _ rfl, by rw [← add_field _ _ 1 (by omega)]; exact hc 1 _ rfl, by rw [← add_field _ _ 2 (by omega)]; exact hc 2 _ rfl⟩

/-! #### struct type 59 -/
structure S59 where
  f0 : Int
  f1 : S57
def z59 : S59 := ⟨(0 : Int), z57⟩
def k59 : Kd S59 := Kd.iso (Kd.pair (Kd.int .i64) k57) (fun x : S59 => (x.f0, x.f1))
theorem k59_open {w : World} {x : S59} {cs : List Value} (h : k59.K w x cs) : cs = [.int .i64 x.f0, .int .i64 x.f1.f0, .int .i64 x.f1.f1, .string x.f1.f2] := by
  obtain ⟨_, _, rfl, rfl, s1⟩ := h
  obtain rfl := k57_open s1
  exact rfl
theorem k59_openM {w : World} {base : Nat} {ok : Nat → Prop} {x : S59} {cs : List Value} (h : k59.M w base ok x cs) : cs = [.int .i64 x.f0, .int .i64 x.f1.f0, .int .i64 x.f1.f1, .string x.f1.f2] := by
  obtain ⟨_, _, rfl, rfl, s1⟩ := h
  obtain rfl := k57_openM s1
  exact rfl
theorem k59_mk (w : World) (x : S59)  : k59.K w x [.int .i64 x.f0, .int .i64 x.f1.f0, .int .i64 x.f1.f1, .string x.f1.f2] := ⟨[.int .i64 x.f0], [.int .i64 x.f1.f0, .int .i64 x.f1.f1, .string x.f1.f2], rfl, rfl, (k57_mk w x.f1 )⟩
theorem k59_mkM (w : World) (base : Nat) (ok : Nat → Prop) (x : S59)  : k59.M w base ok x [.int .i64 x.f0, .int .i64 x.f1.f0, .int .i64 x.f1.f1, .string x.f1.f2] := ⟨[.int .i64 x.f0], [.int .i64 x.f1.f0, .int .i64 x.f1.f1, .string x.f1.f2], rfl, rfl, (k57_mkM w base ok x.f1 )⟩
def rd_T59 (xs : List S59) (i : Int) : S59 := xs.getD i.toNat z59
theorem at_T59 {w : World} {A : Option Addr} {n : Nat} {xs : List S59} (h : Kd.C k59 w A n xs) (i : Int) (h0 : 0 ≤ i) (h1 : i < n) : ∃ ad , A = some ad ∧ w.cell? (ad.add (i.toNat * 4)) = some (.int .i64 (rd_T59 xs i).f0) ∧ w.cell? ⟨(ad.add (i.toNat * 4)).block, (ad.add (i.toNat * 4)).off + 1, none⟩ = some (.int .i64 (rd_T59 xs i).f1.f0) ∧ w.cell? ⟨(ad.add (i.toNat * 4)).block, (ad.add (i.toNat * 4)).off + 2, none⟩ = some (.int .i64 (rd_T59 xs i).f1.f1) ∧ w.cell? ⟨(ad.add (i.toNat * 4)).block, (ad.add (i.toNat * 4)).off + 3, none⟩ = some (.string (rd_T59 xs i).f1.f2) := by
  obtain ⟨ad, c, e, _, hK, hc0⟩ := Kd.C_get h z59 i h0 h1
  have hc : ∀ j u, c[j]? = some u → w.cell? (ad.add (i.toNat * 4 + j)) = some u := hc0
  obtain rfl := k59_open hK
  exact ⟨ad, e, hc 0 _ rfl, by rw [← add_field _ _ 1 (by omega)]; exact hc 1 _ rfl, by rw [← add_field _ _ 2 (by omega)]; exact hc 2 _ rfl, by rw [← add_field _ _ 3 (by omega)]; exact hc 3 _ rfl⟩

def rd_L4 (xs : List (List Int)) (i : Int) : (List Int) := xs.getD i.toNat ([] : List Int)
theorem at_L4 {w : World} {A : Option Addr} {n : Nat} {xs : List (List Int)} (h : Kd.C (Kd.slice 3 (Kd.int .i64)) w A n xs) (i : Int) (h0 : 0 ≤ i) (h1 : i < n) : ∃ ad A0 c0, A = some ad ∧ w.cell? (ad.add i.toNat) = some (.slice A0 (rd_L4 xs i).length c0) ∧ (rd_L4 xs i).length ≤ c0 ∧ (Kd.int .i64).C w A0 (rd_L4 xs i).length (rd_L4 xs i) := by
  obtain ⟨ad, c, e, _, hK, hc0⟩ := Kd.C_get h ([] : List Int) i h0 h1
  have hc : ∀ j u, c[j]? = some u → w.cell? (ad.add (i.toNat * 1 + j)) = some u := hc0
  obtain ⟨A0, c0, rfl, l0, g0⟩ := hK
  exact ⟨ad, A0, c0, e, by have hq := hc 0 _ rfl; rwa [Nat.mul_one, Nat.add_zero] at hq, l0, g0⟩

def rd_L6 (xs : List (List S59)) (i : Int) : (List S59) := xs.getD i.toNat ([] : List S59)
theorem at_L6 {w : World} {A : Option Addr} {n : Nat} {xs : List (List S59)} (h : Kd.C (Kd.slice 59 k59) w A n xs) (i : Int) (h0 : 0 ≤ i) (h1 : i < n) : ∃ ad A0 c0, A = some ad ∧ w.cell? (ad.add i.toNat) = some (.slice A0 (rd_L6 xs i).length c0) ∧ (rd_L6 xs i).length ≤ c0 ∧ k59.C w A0 (rd_L6 xs i).length (rd_L6 xs i) := by
  obtain ⟨ad, c, e, _, hK, hc0⟩ := Kd.C_get h ([] : List S59) i h0 h1
  have hc : ∀ j u, c[j]? = some u → w.cell? (ad.add (i.toNat * 1 + j)) = some u := hc0
  obtain ⟨A0, c0, rfl, l0, g0⟩ := hK
  exact ⟨ad, A0, c0, e, by have hq := hc 0 _ rfl; rwa [Nat.mul_one, Nat.add_zero] at hq, l0, g0⟩

/-! #### struct type 26 -/
structure S26 where
  f0 : Int
  f1 : Int
  f2 : Int
  f3 : Int
  f4 : (List Int)
  f5 : (List S59)
def z26 : S26 := ⟨(0 : Int), (0 : Int), (0 : Int), (0 : Int), ([] : List Int), ([] : List S59)⟩
def k26 : Kd S26 := Kd.iso (Kd.pair (Kd.int .i64) (Kd.pair (Kd.int .i64) (Kd.pair (Kd.int .i64) (Kd.pair (Kd.int .i64) (Kd.pair (Kd.slice 3 (Kd.int .i64)) (Kd.slice 59 k59)))))) (fun x : S26 => (x.f0, x.f1, x.f2, x.f3, x.f4, x.f5))
theorem k26_open {w : World} {x : S26} {cs : List Value} (h : k26.K w x cs) : ∃ A4 c4 A5 c5, cs = [.int .i64 x.f0, .int .i64 x.f1, .int .i64 x.f2, .int .i64 x.f3, .slice A4 x.f4.length c4, .slice A5 x.f5.length c5] ∧ x.f4.length ≤ c4 ∧ (Kd.int .i64).C w A4 x.f4.length x.f4 ∧ x.f5.length ≤ c5 ∧ k59.C w A5 x.f5.length x.f5 := by
  obtain ⟨_, _, rfl, rfl, ⟨_, _, rfl, rfl, ⟨_, _, rfl, rfl, ⟨_, _, rfl, rfl, ⟨_, _, rfl, ⟨A4, c4, rfl, l4, g4⟩, ⟨A5, c5, rfl, l5, g5⟩⟩⟩⟩⟩⟩ := h
  exact ⟨A4, c4, A5, c5, rfl, l4, g4, l5, g5⟩
theorem k26_openM {w : World} {base : Nat} {ok : Nat → Prop} {x : S26} {cs : List Value} (h : k26.M w base ok x cs) : ∃ v4 v5, cs = [.int .i64 x.f0, .int .i64 x.f1, .int .i64 x.f2, .int .i64 x.f3, v4, v5] ∧ (Kd.int .i64).R 3 w base ok v4 x.f4 ∧ k59.R 59 w base ok v5 x.f5 := by
  obtain ⟨_, _, rfl, rfl, ⟨_, _, rfl, rfl, ⟨_, _, rfl, rfl, ⟨_, _, rfl, rfl, ⟨_, _, rfl, ⟨v4, rfl, g4⟩, ⟨v5, rfl, g5⟩⟩⟩⟩⟩⟩ := h
  exact ⟨v4, v5, rfl, g4, g5⟩
theorem k26_mk (w : World) (x : S26) {A4 : Option Addr} {c4 : Nat} (l4 : x.f4.length ≤ c4) (g4 : (Kd.int .i64).C w A4 x.f4.length x.f4) {A5 : Option Addr} {c5 : Nat} (l5 : x.f5.length ≤ c5) (g5 : k59.C w A5 x.f5.length x.f5) : k26.K w x [.int .i64 x.f0, .int .i64 x.f1, .int .i64 x.f2, .int .i64 x.f3, .slice A4 x.f4.length c4, .slice A5 x.f5.length c5] := ⟨[.int .i64 x.f0], [.int .i64 x.f1, .int .i64 x.f2, .int .i64 x.f3, .slice A4 x.f4.length c4, .slice A5 x.f5.length c5], rfl, rfl, ⟨[.int .i64 x.f1], [.int .i64 x.f2, .int .i64 x.f3, .slice A4 x.f4.length c4, .slice A5 x.f5.length c5], rfl, rfl, ⟨[.int .i64 x.f2], [.int .i64 x.f3, .slice A4 x.f4.length c4, .slice A5 x.f5.length c5], rfl, rfl, ⟨[.int .i64 x.f3], [.slice A4 x.f4.length c4, .slice A5 x.f5.length c5], rfl, rfl, ⟨[.slice A4 x.f4.length c4], [.slice A5 x.f5.length c5], rfl, ⟨A4, c4, rfl, l4, g4⟩, ⟨A5, c5, rfl, l5, g5⟩⟩⟩⟩⟩⟩
theorem k26_mkM (w : World) (base : Nat) (ok : Nat → Prop) (x : S26) {v4 : Value} (g4 : (Kd.int .i64).R 3 w base ok v4 x.f4) {v5 : Value} (g5 : k59.R 59 w base ok v5 x.f5) : k26.M w base ok x [.int .i64 x.f0, .int .i64 x.f1, .int .i64 x.f2, .int .i64 x.f3, v4, v5] := ⟨[.int .i64 x.f0], [.int .i64 x.f1, .int .i64 x.f2, .int .i64 x.f3, v4, v5], rfl, rfl, ⟨[.int .i64 x.f1], [.int .i64 x.f2, .int .i64 x.f3, v4, v5], rfl, rfl, ⟨[.int .i64 x.f2], [.int .i64 x.f3, v4, v5], rfl, rfl, ⟨[.int .i64 x.f3], [v4, v5], rfl, rfl, ⟨[v4], [v5], rfl, ⟨v4, rfl, g4⟩, ⟨v5, rfl, g5⟩⟩⟩⟩⟩⟩
def rd_T26 (xs : List S26) (i : Int) : S26 := xs.getD i.toNat z26
theorem at_T26 {w : World} {A : Option Addr} {n : Nat} {xs : List S26} (h : Kd.C k26 w A n xs) (i : Int) (h0 : 0 ≤ i) (h1 : i < n) : ∃ ad A4 c4 A5 c5, A = some ad ∧ w.cell? (ad.add (i.toNat * 6)) = some (.int .i64 (rd_T26 xs i).f0) ∧ w.cell? ⟨(ad.add (i.toNat * 6)).block, (ad.add (i.toNat * 6)).off + 1, none⟩ = some (.int .i64 (rd_T26 xs i).f1) ∧ w.cell? ⟨(ad.add (i.toNat * 6)).block, (ad.add (i.toNat * 6)).off + 2, none⟩ = some (.int .i64 (rd_T26 xs i).f2) ∧ w.cell? ⟨(ad.add (i.toNat * 6)).block, (ad.add (i.toNat * 6)).off + 3, none⟩ = some (.int .i64 (rd_T26 xs i).f3) ∧ w.cell? ⟨(ad.add (i.toNat * 6)).block, (ad.add (i.toNat * 6)).off + 4, none⟩ = some (.slice A4 (rd_T26 xs i).f4.length c4) ∧ w.cell? ⟨(ad.add (i.toNat * 6)).block, (ad.add (i.toNat * 6)).off + 5, none⟩ = some (.slice A5 (rd_T26 xs i).f5.length c5) ∧ (rd_T26 xs i).f4.length ≤ c4 ∧ (Kd.int .i64).C w A4 (rd_T26 xs i).f4.length (rd_T26 xs i).f4 ∧ (rd_T26 xs i).f5.length ≤ c5 ∧ k59.C w A5 (rd_T26 xs i).f5.length (rd_T26 xs i).f5 := by
  obtain ⟨ad, c, e, _, hK, hc0⟩ := Kd.C_get h z26 i h0 h1
  have hc : ∀ j u, c[j]? = some u → w.cell? (ad.add (i.toNat * 6 + j)) = some u := hc0
  obtain ⟨A4, c4, A5, c5, rfl, l4, g4, l5, g5⟩ := k26_open hK
  exact ⟨ad, A4, c4, A5, c5, e, hc 0 _ rfl, by rw [← add_field _ _ 1 (by omega)]; exact hc 1 _ rfl, by rw [← add_field _ _ 2 (by omega)]; exact hc 2 _ rfl, by rw [← add_field _ _ 3 (by omega)]; exact hc 3 _ rfl, by rw [← add_field _ _ 4 (by omega)]; exact hc 4 _ rfl, by rw [← add_field _ _ 5 (by omega)]; exact hc 5 _ rfl, l4, g4, l5, g5⟩

def rd_L8 (xs : List (List S57)) (i : Int) : (List S57) := xs.getD i.toNat ([] : List S57)
theorem at_L8 {w : World} {A : Option Addr} {n : Nat} {xs : List (List S57)} (h : Kd.C (Kd.slice 57 k57) w A n xs) (i : Int) (h0 : 0 ≤ i) (h1 : i < n) : ∃ ad A0 c0, A = some ad ∧ w.cell? (ad.add i.toNat) = some (.slice A0 (rd_L8 xs i).length c0) ∧ (rd_L8 xs i).length ≤ c0 ∧ k57.C w A0 (rd_L8 xs i).length (rd_L8 xs i) := by
  obtain ⟨ad, c, e, _, hK, hc0⟩ := Kd.C_get h ([] : List S57) i h0 h1
  have hc : ∀ j u, c[j]? = some u → w.cell? (ad.add (i.toNat * 1 + j)) = some u := hc0
  obtain ⟨A0, c0, rfl, l0, g0⟩ := hK
  exact ⟨ad, A0, c0, e, by have hq := hc 0 _ rfl; rwa [Nat.mul_one, Nat.add_zero] at hq, l0, g0⟩

/-! #### struct type 41 -/
structure S41 where
  f0 : Int
  f1 : Int
  f2 : Int
  f3 : Int
  f4 : (List S57)
def z41 : S41 := ⟨(0 : Int), (0 : Int), (0 : Int), (0 : Int), ([] : List S57)⟩
def k41 : Kd S41 := Kd.iso (Kd.pair (Kd.int .i64) (Kd.pair (Kd.int .i64) (Kd.pair (Kd.int .i64) (Kd.pair (Kd.int .i64) (Kd.slice 57 k57))))) (fun x : S41 => (x.f0, x.f1, x.f2, x.f3, x.f4))
theorem k41_open {w : World} {x : S41} {cs : List Value} (h : k41.K w x cs) : ∃ A4 c4, cs = [.int .i64 x.f0, .int .i64 x.f1, .int .i64 x.f2, .int .i64 x.f3, .slice A4 x.f4.length c4] ∧ x.f4.length ≤ c4 ∧ k57.C w A4 x.f4.length x.f4 := by
  obtain ⟨_, _, rfl, rfl, ⟨_, _, rfl, rfl, ⟨_, _, rfl, rfl, ⟨_, _, rfl, rfl, ⟨A4, c4, rfl, l4, g4⟩⟩⟩⟩⟩ := h
  exact ⟨A4, c4, rfl, l4, g4⟩
theorem k41_openM {w : World} {base : Nat} {ok : Nat → Prop} {x : S41} {cs : List Value} (h : k41.M w base ok x cs) : ∃ v4, cs = [.int .i64 x.f0, .int .i64 x.f1, .int .i64 x.f2, .int .i64 x.f3, v4] ∧ k57.R 57 w base ok v4 x.f4 := by
  obtain ⟨_, _, rfl, rfl, ⟨_, _, rfl, rfl, ⟨_, _, rfl, rfl, ⟨_, _, rfl, rfl, ⟨v4, rfl, g4⟩⟩⟩⟩⟩ := h
  exact ⟨v4, rfl, g4⟩
theorem k41_mk (w : World) (x : S41) {A4 : Option Addr} {c4 : Nat} (l4 : x.f4.length ≤ c4) (g4 : k57.C w A4 x.f4.length x.f4) : k41.K w x [.int .i64 x.f0, .int .i64 x.f1, .int .i64 x.f2, .int .i64 x.f3, .slice A4 x.f4.length c4] := ⟨[.int .i64 x.f0], [.int .i64 x.f1, .int .i64 x.f2, .int .i64 x.f3, .slice A4 x.f4.length c4], rfl, rfl, ⟨[.int .i64 x.f1], [.int .i64 x.f2, .int .i64 x.f3, .slice A4 x.f4.length c4], rfl, rfl, ⟨[.int .i64 x.f2], [.int .i64 x.f3, .slice A4 x.f4.length c4], rfl, rfl, ⟨[.int .i64 x.f3], [.slice A4 x.f4.length c4], rfl, rfl, ⟨A4, c4, rfl, l4, g4⟩⟩⟩⟩⟩
theorem k41_mkM (w : World) (base : Nat) (ok : Nat → Prop) (x : S41) {v4 : Value} (g4 : k57.R 57 w base ok v4 x.f4) : k41.M w base ok x [.int .i64 x.f0, .int .i64 x.f1, .int .i64 x.f2, .int .i64 x.f3, v4] := ⟨[.int .i64 x.f0], [.int .i64 x.f1, .int .i64 x.f2, .int .i64 x.f3, v4], rfl, rfl, ⟨[.int .i64 x.f1], [.int .i64 x.f2, .int .i64 x.f3, v4], rfl, rfl, ⟨[.int .i64 x.f2], [.int .i64 x.f3, v4], rfl, rfl, ⟨[.int .i64 x.f3], [v4], rfl, rfl, ⟨v4, rfl, g4⟩⟩⟩⟩⟩
def rd_T41 (xs : List S41) (i : Int) : S41 := xs.getD i.toNat z41
theorem at_T41 {w : World} {A : Option Addr} {n : Nat} {xs : List S41} (h : Kd.C k41 w A n xs) (i : Int) (h0 : 0 ≤ i) (h1 : i < n) : ∃ ad A4 c4, A = some ad ∧ w.cell? (ad.add (i.toNat * 5)) = some (.int .i64 (rd_T41 xs i).f0) ∧ w.cell? ⟨(ad.add (i.toNat * 5)).block, (ad.add (i.toNat * 5)).off + 1, none⟩ = some (.int .i64 (rd_T41 xs i).f1) ∧ w.cell? ⟨(ad.add (i.toNat * 5)).block, (ad.add (i.toNat * 5)).off + 2, none⟩ = some (.int .i64 (rd_T41 xs i).f2) ∧ w.cell? ⟨(ad.add (i.toNat * 5)).block, (ad.add (i.toNat * 5)).off + 3, none⟩ = some (.int .i64 (rd_T41 xs i).f3) ∧ w.cell? ⟨(ad.add (i.toNat * 5)).block, (ad.add (i.toNat * 5)).off + 4, none⟩ = some (.slice A4 (rd_T41 xs i).f4.length c4) ∧ (rd_T41 xs i).f4.length ≤ c4 ∧ k57.C w A4 (rd_T41 xs i).f4.length (rd_T41 xs i).f4 := by
  obtain ⟨ad, c, e, _, hK, hc0⟩ := Kd.C_get h z41 i h0 h1
  have hc : ∀ j u, c[j]? = some u → w.cell? (ad.add (i.toNat * 5 + j)) = some u := hc0
  obtain ⟨A4, c4, rfl, l4, g4⟩ := k41_open hK
  exact ⟨ad, A4, c4, e, hc 0 _ rfl, by rw [← add_field _ _ 1 (by omega)]; exact hc 1 _ rfl, by rw [← add_field _ _ 2 (by omega)]; exact hc 2 _ rfl, by rw [← add_field _ _ 3 (by omega)]; exact hc 3 _ rfl, by rw [← add_field _ _ 4 (by omega)]; exact hc 4 _ rfl, l4, g4⟩

/-! #### struct type 43 -/
structure S43 where
  f0 : Int
  f1 : Int
  f2 : Int
  f3 : Int
  f4 : Int
  f5 : Int
  f6 : Int
  f7 : Int
  f8 : Int
  f9 : Int
  f10 : Int
  f11 : Int
  f12 : Bool
  f13 : S41
def z43 : S43 := ⟨(0 : Int), (0 : Int), (0 : Int), (0 : Int), (0 : Int), (0 : Int), (0 : Int), (0 : Int), (0 : Int), (0 : Int), (0 : Int), (0 : Int), false, z41⟩
def k43 : Kd S43 := Kd.iso (Kd.pair (Kd.int .i64) (Kd.pair (Kd.int .i64) (Kd.pair (Kd.int .i64) (Kd.pair (Kd.int .i64) (Kd.pair (Kd.int .i64) (Kd.pair (Kd.int .i64) (Kd.pair (Kd.int .i64) (Kd.pair (Kd.int .i64) (Kd.pair (Kd.int .i64) (Kd.pair (Kd.int .i64) (Kd.pair (Kd.int .i64) (Kd.pair (Kd.int .i64) (Kd.pair Kd.bool k41))))))))))))) (fun x : S43 => (x.f0, x.f1, x.f2, x.f3, x.f4, x.f5, x.f6, x.f7, x.f8, x.f9, x.f10, x.f11, x.f12, x.f13))
theorem k43_open {w : World} {x : S43} {cs : List Value} (h : k43.K w x cs) : ∃ A17 c17, cs = [.int .i64 x.f0, .int .i64 x.f1, .int .i64 x.f2, .int .i64 x.f3, .int .i64 x.f4, .int .i64 x.f5, .int .i64 x.f6, .int .i64 x.f7, .int .i64 x.f8, .int .i64 x.f9, .int .i64 x.f10, .int .i64 x.f11, .bool x.f12, .int .i64 x.f13.f0, .int .i64 x.f13.f1, .int .i64 x.f13.f2, .int .i64 x.f13.f3, .slice A17 x.f13.f4.length c17] ∧ x.f13.f4.length ≤ c17 ∧ k57.C w A17 x.f13.f4.length x.f13.f4 := by
  obtain ⟨_, _, rfl, rfl, ⟨_, _, rfl, rfl, ⟨_, _, rfl, rfl, ⟨_, _, rfl, rfl, ⟨_, _, rfl, rfl, ⟨_, _, rfl, rfl, ⟨_, _, rfl, rfl, ⟨_, _, rfl, rfl, ⟨_, _, rfl, rfl, ⟨_, _, rfl, rfl, ⟨_, _, rfl, rfl, ⟨_, _, rfl, rfl, ⟨_, _, rfl, rfl, s13⟩⟩⟩⟩⟩⟩⟩⟩⟩⟩⟩⟩⟩ := h
  obtain ⟨A17, c17, rfl, l17, g17⟩ := k41_open s13
  exact ⟨A17, c17, rfl, l17, g17⟩
theorem k43_openM {w : World} {base : Nat} {ok : Nat → Prop} {x : S43} {cs : List Value} (h : k43.M w base ok x cs) : ∃ v17, cs = [.int .i64 x.f0, .int .i64 x.f1, .int .i64 x.f2, .int .i64 x.f3, .int .i64 x.f4, .int .i64 x.f5, .int .i64 x.f6, .int .i64 x.f7, .int .i64 x.f8, .int .i64 x.f9, .int .i64 x.f10, .int .i64 x.f11, .bool x.f12, .int .i64 x.f13.f0, .int .i64 x.f13.f1, .int .i64 x.f13.f2, .int .i64 x.f13.f3, v17] ∧ k57.R 57 w base ok v17 x.f13.f4 := by
  obtain ⟨_, _, rfl, rfl, ⟨_, _, rfl, rfl, ⟨_, _, rfl, rfl, ⟨_, _, rfl, rfl, ⟨_, _, rfl, rfl, ⟨_, _, rfl, rfl, ⟨_, _, rfl, rfl, ⟨_, _, rfl, rfl, ⟨_, _, rfl, rfl, ⟨_, _, rfl, rfl, ⟨_, _, rfl, rfl, ⟨_, _, rfl, rfl, ⟨_, _, rfl, rfl, s13⟩⟩⟩⟩⟩⟩⟩⟩⟩⟩⟩⟩⟩ := h
  obtain ⟨v17, rfl, g17⟩ := k41_openM s13
  exact ⟨v17, rfl, g17⟩
theorem k43_mk (w : World) (x : S43) {A17 : Option Addr} {c17 : Nat} (l17 : x.f13.f4.length ≤ c17) (g17 : k57.C w A17 x.f13.f4.length x.f13.f4) : k43.K w x [.int .i64 x.f0, .int .i64 x.f1, .int .i64 x.f2, .int .i64 x.f3, .int .i64 x.f4, .int .i64 x.f5, .int .i64 x.f6, .int .i64 x.f7, .int .i64 x.f8, .int .i64 x.f9, .int .i64 x.f10, .int .i64 x.f11, .bool x.f12, .int .i64 x.f13.f0, .int .i64 x.f13.f1, .int .i64 x.f13.f2, .int .i64 x.f13.f3, .slice A17 x.f13.f4.length c17] := ⟨[.int .i64 x.f0], [.int .i64 x.f1, .int .i64 x.f2, .int .i64 x.f3, .int .i64 x.f4, .int .i64 x.f5, .int .i64 x.f6, .int .i64 x.f7, .int .i64 x.f8, .int .i64 x.f9, .int .i64 x.f10, .int .i64 x.f11, .bool x.f12, .int .i64 x.f13.f0, .int .i64 x.f13.f1, .int .i64 x.f13.f2, .int .i64 x.f13.f3, .slice A17 x.f13.f4.length c17], rfl, rfl, ⟨[.int .i64 x.f1], [.int .i64 x.f2, .int .i64 x.f3, .int .i64 x.f4, .int .i64 x.f5, .int .i64 x.f6, .int .i64 x.f7, .int .i64 x.f8, .int .i64 x.f9, .int .i64 x.f10, .int .i64 x.f11, .bool x.f12, .int .i64 x.f13.f0, .int .i64 x.f13.f1, .int .i64 x.f13.f2, .int .i64 x.f13.f3, .slice A17 x.f13.f4.length c17], rfl, rfl, ⟨[.int .i64 x.f2], [.int .i64 x.f3, .int .i64 x.f4, .int .i64 x.f5, .int .i64 x.f6, .int .i64 x.f7, .int .i64 x.f8, .int .i64 x.f9, .int .i64 x.f10, .int .i64 x.f11, .bool x.f12, .int .i64 x.f13.f0, .int .i64 x.f13.f1, .int .i64 x.f13.f2, .int .i64 x.f13.f3, .slice A17 x.f13.f4.length c17], rfl, rfl, ⟨[.int .i64 x.f3], [.int .i64 x.f4, .int .i64 x.f5, .int .i64 x.f6, .int .i64 x.f7, .int .i64 x.f8, .int .i64 x.f9, .int .i64 x.f10, .int .i64 x.f11, .bool x.f12, .int .i64 x.f13.f0, .int .i64 x.f13.f1, .int .i64 x.f13.f2, .int .i64 x.f13.f3, .slice A17 x.f13.f4.length c17], rfl, rfl, ⟨[.int .i64 x.f4], [.int .i64 x.f5, .int .i64 x.f6, .int .i64 x.f7, .int .i64 x.f8, .int .i64 x.f9, .int .i64 x.f10, .int .i64 x.f11, .bool x.f12, .int .i64 x.f13.f0, .int .i64 x.f13.f1, .int .i64 x.f13.f2, .int .i64 x.f13.f3, .slice A17 x.f13.f4.length c17], rfl, rfl, ⟨[.int .i64 x.f5], [.int .i64 x.f6, .int .i64 x.f7, .int .i64 x.f8, .int .i64 x.f9, .int .i64 x.f10, .int .i64 x.f11, .bool x.f12, .int .i64 x.f13.f0, .int .i64 x.f13.f1, .int .i64 x.f13.f2, .int .i64 x.f13.f3, .slice A17 x.f13.f4.length c17], rfl, rfl, ⟨[.int .i64 x.f6], [.int .i64 x.f7, .int .i64 x.f8, .int .i64 x.f9, .int .i64 x.f10, .int .i64 x.f11, .bool x.f12, .int .i64 x.f13.f0, .int .i64 x.f13.f1, .int .i64 x.f13.f2, .int .i64 x.f13.f3, .slice A17 x.f13.f4.length c17], rfl, rfl, ⟨[.int .i64 x.f7], [.int .i64 x.f8, .int .i64 x.f9, .int .i64 x.f10, .int .i64 x.f11, .bool x.f12, .int .i64 x.f13.f0, .int .i64 x.f13.f1, .int .i64 x.f13.f2, .int .i64 x.f13.f3, .slice A17 x.f13.f4.length c17], rfl, rfl, ⟨[.int .i64 x.f8], [.int .i64 x.f9, .int .i64 x.f10, .int .i64 x.f11, .bool x.f12, .int .i64 x.f13.f0, .int .i64 x.f13.f1, .int .i64 x.f13.f2, .int .i64 x.f13.f3, .slice A17 x.f13.f4.length c17], rfl, rfl, ⟨[.int .i64 x.f9], [.int .i64 x.f10, .int .i64 x.f11, .bool x.f12, .int .i64 x.f13.f0, .int .i64 x.f13.f1, .int .i64 x.f13.f2, .int .i64 x.f13.f3, .slice A17 x.f13.f4.length c17], rfl, rfl, ⟨[.int .i64 x.f10], [.int .i64 x.f11, .bool x.f12, .int .i64 x.f13.f0, .int .i64 x.f13.f1, .int .i64 x.f13.f2, .int .i64 x.f13.f3, .slice A17 x.f13.f4.length c17], rfl, rfl, ⟨[.int .i64 x.f11], [.bool x.f12, .int .i64 x.f13.f0, .int .i64 x.f13.f1, .int .i64 x.f13.f2, .int .i64 x.f13.f3, .slice A17 x.f13.f4.length c17], rfl, rfl, ⟨[.bool x.f12], [.int .i64 x.f13.f0, .int .i64 x.f13.f1, .int .i64 x.f13.f2, .int .i64 x.f13.f3, .slice A17 x.f13.f4.length c17], rfl, rfl, (k41_mk w x.f13 l17 g17)⟩⟩⟩⟩⟩⟩⟩⟩⟩⟩⟩⟩⟩
theorem k43_mkM (w : World) (base : Nat) (ok : Nat → Prop) (x : S43) {v17 : Value} (g17 : k57.R 57 w base ok v17 x.f13.f4) : k43.M w base ok x [.int .i64 x.f0, .int .i64 x.f1, .int .i64 x.f2, .int .i64 x.f3, .int .i64 x.f4, .int .i64 x.f5, .int .i64 x.f6, .int .i64 x.f7, .int .i64 x.f8, .int .i64 x.f9, .int .i64 x.f10, .int .i64 x.f11, .bool x.f12, .int .i64 x.f13.f0, .int .i64 x.f13.f1, .int .i64 x.f13.f2, .int .i64 x.f13.f3, v17] := ⟨[.int .i64 x.f0], [.int .i64 x.f1, .int .i64 x.f2, .int .i64 x.f3, .int .i64 x.f4, .int .i64 x.f5, .int .i64 x.f6, .int .i64 x.f7, .int .i64 x.f8, .int .i64 x.f9, .int .i64 x.f10, .int .i64 x.f11, .bool x.f12, .int .i64 x.f13.f0, .int .i64 x.f13.f1, .int .i64 x.f13.f2, .int .i64 x.f13.f3, v17], rfl, rfl, ⟨[.int .i64 x.f1], [.int .i64 x.f2, .int .i64 x.f3, .int .i64 x.f4, .int .i64 x.f5, .int .i64 x.f6, .int .i64 x.f7, .int .i64 x.f8, .int .i64 x.f9, .int .i64 x.f10, .int .i64 x.f11, .bool x.f12, .int .i64 x.f13.f0, .int .i64 x.f13.f1, .int .i64 x.f13.f2, .int .i64 x.f13.f3, v17], rfl, rfl, ⟨[.int .i64 x.f2], [.int .i64 x.f3, .int .i64 x.f4, .int .i64 x.f5, .int .i64 x.f6, .int .i64 x.f7, .int .i64 x.f8, .int .i64 x.f9, .int .i64 x.f10, .int .i64 x.f11, .bool x.f12, .int .i64 x.f13.f0, .int .i64 x.f13.f1, .int .i64 x.f13.f2, .int .i64 x.f13.f3, v17], rfl, rfl, ⟨[.int .i64 x.f3], [.int .i64 x.f4, .int .i64 x.f5, .int .i64 x.f6, .int .i64 x.f7, .int .i64 x.f8, .int .i64 x.f9, .int .i64 x.f10, .int .i64 x.f11, .bool x.f12, .int .i64 x.f13.f0, .int .i64 x.f13.f1, .int .i64 x.f13.f2, .int .i64 x.f13.f3, v17], rfl, rfl, ⟨[.int .i64 x.f4], [.int .i64 x.f5, .int .i64 x.f6, .int .i64 x.f7, .int .i64 x.f8, .int .i64 x.f9, .int .i64 x.f10, .int .i64 x.f11, .bool x.f12, .int .i64 x.f13.f0, .int .i64 x.f13.f1, .int .i64 x.f13.f2, .int .i64 x.f13.f3, v17], rfl, rfl, ⟨[.int .i64 x.f5], [.int .i64 x.f6, .int .i64 x.f7, .int .i64 x.f8, .int .i64 x.f9, .int .i64 x.f10, .int .i64 x.f11, .bool x.f12, .int .i64 x.f13.f0, .int .i64 x.f13.f1, .int .i64 x.f13.f2, .int .i64 x.f13.f3, v17], rfl, rfl, ⟨[.int .i64 x.f6], [.int .i64 x.f7, .int .i64 x.f8, .int .i64 x.f9, .int .i64 x.f10, .int .i64 x.f11, .bool x.f12, .int .i64 x.f13.f0, .int .i64 x.f13.f1, .int .i64 x.f13.f2, .int .i64 x.f13.f3, v17], rfl, rfl, ⟨[.int .i64 x.f7], [.int .i64 x.f8, .int .i64 x.f9, .int .i64 x.f10, .int .i64 x.f11, .bool x.f12, .int .i64 x.f13.f0, .int .i64 x.f13.f1, .int .i64 x.f13.f2, .int .i64 x.f13.f3, v17], rfl, rfl, ⟨[.int .i64 x.f8], [.int .i64 x.f9, .int .i64 x.f10, .int .i64 x.f11, .bool x.f12, .int .i64 x.f13.f0, .int .i64 x.f13.f1, .int .i64 x.f13.f2, .int .i64 x.f13.f3, v17], rfl, rfl, ⟨[.int .i64 x.f9], [.int .i64 x.f10, .int .i64 x.f11, .bool x.f12, .int .i64 x.f13.f0, .int .i64 x.f13.f1, .int .i64 x.f13.f2, .int .i64 x.f13.f3, v17], rfl, rfl, ⟨[.int .i64 x.f10], [.int .i64 x.f11, .bool x.f12, .int .i64 x.f13.f0, .int .i64 x.f13.f1, .int .i64 x.f13.f2, .int .i64 x.f13.f3, v17], rfl, rfl, ⟨[.int .i64 x.f11], [.bool x.f12, .int .i64 x.f13.f0, .int .i64 x.f13.f1, .int .i64 x.f13.f2, .int .i64 x.f13.f3, v17], rfl, rfl, ⟨[.bool x.f12], [.int .i64 x.f13.f0, .int .i64 x.f13.f1, .int .i64 x.f13.f2, .int .i64 x.f13.f3, v17], rfl, rfl, (k41_mkM w base ok x.f13 g17)⟩⟩⟩⟩⟩⟩⟩⟩⟩⟩⟩⟩⟩
def rd_T43 (xs : List S43) (i : Int) : S43 := xs.getD i.toNat z43
theorem at_T43 {w : World} {A : Option Addr} {n : Nat} {xs : List S43} (h : Kd.C k43 w A n xs) (i : Int) (h0 : 0 ≤ i) (h1 : i < n) : ∃ ad A17 c17, A = some ad ∧ w.cell? (ad.add (i.toNat * 18)) = some (.int .i64 (rd_T43 xs i).f0) ∧ w.cell? ⟨(ad.add (i.toNat * 18)).block, (ad.add (i.toNat * 18)).off + 1, none⟩ = some (.int .i64 (rd_T43 xs i).f1) ∧ w.cell? ⟨(ad.add (i.toNat * 18)).block, (ad.add (i.toNat * 18)).off + 2, none⟩ = some (.int .i64 (rd_T43 xs i).f2) ∧ w.cell? ⟨(ad.add (i.toNat * 18)).block, (ad.add (i.toNat * 18)).off + 3, none⟩ = some (.int .i64 (rd_T43 xs i).f3) ∧ w.cell? ⟨(ad.add (i.toNat * 18)).block, (ad.add (i.toNat * 18)).off + 4, none⟩ = some (.int .i64 (rd_T43 xs i).f4) ∧ w.cell? ⟨(ad.add (i.toNat * 18)).block, (ad.add (i.toNat * 18)).off + 5, none⟩ = some (.int .i64 (rd_T43 xs i).f5) ∧ w.cell? ⟨(ad.add (i.toNat * 18)).block, (ad.add (i.toNat * 18)).off + 6, none⟩ = some (.int .i64 (rd_T43 xs i).f6) ∧ w.cell? ⟨(ad.add (i.toNat * 18)).block, (ad.add (i.toNat * 18)).off + 7, none⟩ = some (.int .i64 (rd_T43 xs i).f7) ∧ w.cell? ⟨(ad.add (i.toNat * 18)).block, (ad.add (i.toNat * 18)).off + 8, none⟩ = some (.int .i64 (rd_T43 xs i).f8) ∧ w.cell? ⟨(ad.add (i.toNat * 18)).block, (ad.add (i.toNat * 18)).off + 9, none⟩ = some (.int .i64 (rd_T43 xs i).f9) ∧ w.cell? ⟨(ad.add (i.toNat * 18)).block, (ad.add (i.toNat * 18)).off + 10, none⟩ = some (.int .i64 (rd_T43 xs i).f10) ∧ w.cell? ⟨(ad.add (i.toNat * 18)).block, (ad.add (i.toNat * 18)).off + 11, none⟩ = some (.int .i64 (rd_T43 xs i).f11) ∧ w.cell? ⟨(ad.add (i.toNat * 18)).block, (ad.add (i.toNat * 18)).off + 12, none⟩ = some (.bool (rd_T43 xs i).f12) ∧ w.cell? ⟨(ad.add (i.toNat * 18)).block, (ad.add (i.toNat * 18)).off + 13, none⟩ = some (.int .i64 (rd_T43 xs i).f13.f0) ∧ w.cell? ⟨(ad.add (i.toNat * 18)).block, (ad.add (i.toNat * 18)).off + 14, none⟩ = some (.int .i64 (rd_T43 xs i).f13.f1) ∧ w.cell? ⟨(ad.add (i.toNat * 18)).block, (ad.add (i.toNat * 18)).off + 15, none⟩ = some (.int .i64 (rd_T43 xs i).f13.f2) ∧ w.cell? ⟨(ad.add (i.toNat * 18)).block, (ad.add (i.toNat * 18)).off + 16, none⟩ = some (.int .i64 (rd_T43 xs i).f13.f3) ∧ w.cell? ⟨(ad.add (i.toNat * 18)).block, (ad.add (i.toNat * 18)).off + 17, none⟩ = some (.slice A17 (rd_T43 xs i).f13.f4.length c17) ∧ (rd_T43 xs i).f13.f4.length ≤ c17 ∧ k57.C w A17 (rd_T43 xs i).f13.f4.length (rd_T43 xs i).f13.f4 := by
  obtain ⟨ad, c, e, _, hK, hc0⟩ := Kd.C_get h z43 i h0 h1
  have hc : ∀ j u, c[j]? = some u → w.cell? (ad.add (i.toNat * 18 + j)) = some u := hc0
  obtain ⟨A17, c17, rfl, l17, g17⟩ := k43_open hK
  exact ⟨ad, A17, c17, e, hc 0 _ rfl, by rw [← add_field _ _ 1 (by omega)]; exact hc 1 _ rfl, by rw [← add_field _ _ 2 (by omega)]; exact hc 2 _ rfl, by rw [← add_field _ _ 3 (by omega)]; exact hc 3 _ rfl, by rw [← add_field _ _ 4 (by omega)]; exact hc 4 _ rfl, by rw [← add_field _ _ 5 (by omega)]; exact hc 5 _ rfl, by rw [← add_field _ _ 6 (by omega)]; exact hc 6 _ rfl, by rw [← add_field _ _ 7 (by omega)]; exact hc 7 _ rfl, by rw [← add_field _ _ 8 (by omega)]; exact hc 8 _ rfl, by rw [← add_field _ _ 9 (by omega)]; exact hc 9 _ rfl, by rw [← add_field _ _ 10 (by omega)]; exact hc 10 _ rfl, by rw [← add_field _ _ 11 (by omega)]; exact hc 11 _ rfl, by rw [← add_field _ _ 12 (by omega)]; exact hc 12 _ rfl, by rw [← add_field _ _ 13 (by omega)]; exact hc 13 _ rfl, by rw [← add_field _ _ 14 (by omega)]; exact hc 14 _ rfl, by rw [← add_field _ _ 15 (by omega)]; exact hc 15 _ rfl, by rw [← add_field _ _ 16 (by omega)]; exact hc 16 _ rfl, by rw [← add_field _ _ 17 (by omega)]; exact hc 17 _ rfl, l17, g17⟩

/-- What a value of type 57 is known to be. -/
def wf57 (x : S57) : Prop := ((Lit.int .i64 x.f0).wf = true) ∧ ((Lit.int .i64 x.f1).wf = true) ∧ (x.f2.size ≤ 9223372036854775807)
/-- What a value of type 59 is known to be. -/
def wf59 (x : S59) : Prop := ((Lit.int .i64 x.f0).wf = true) ∧ (wf57 x.f1)
/-- What a value of type 26 is known to be. -/
def wf26 (x : S26) : Prop := ((Lit.int .i64 x.f0).wf = true) ∧ ((Lit.int .i64 x.f1).wf = true) ∧ ((Lit.int .i64 x.f2).wf = true) ∧ ((Lit.int .i64 x.f3).wf = true) ∧ (x.f4.length ≤ 9223372036854775807 ∧ ∀ y_ ∈ x.f4, (Lit.int .i64 y_).wf = true) ∧ (x.f5.length ≤ 9223372036854775807 ∧ ∀ y_ ∈ x.f5, wf59 y_)
/-- What a value of type 41 is known to be. -/
def wf41 (x : S41) : Prop := ((Lit.int .i64 x.f0).wf = true) ∧ ((Lit.int .i64 x.f1).wf = true) ∧ ((Lit.int .i64 x.f2).wf = true) ∧ ((Lit.int .i64 x.f3).wf = true) ∧ (x.f4.length ≤ 9223372036854775807 ∧ ∀ y_ ∈ x.f4, wf57 y_)
/-- What a value of type 43 is known to be. -/
def wf43 (x : S43) : Prop := ((Lit.int .i64 x.f0).wf = true) ∧ ((Lit.int .i64 x.f1).wf = true) ∧ ((Lit.int .i64 x.f2).wf = true) ∧ ((Lit.int .i64 x.f3).wf = true) ∧ ((Lit.int .i64 x.f4).wf = true) ∧ ((Lit.int .i64 x.f5).wf = true) ∧ ((Lit.int .i64 x.f6).wf = true) ∧ ((Lit.int .i64 x.f7).wf = true) ∧ ((Lit.int .i64 x.f8).wf = true) ∧ ((Lit.int .i64 x.f9).wf = true) ∧ ((Lit.int .i64 x.f10).wf = true) ∧ ((Lit.int .i64 x.f11).wf = true) ∧ (True) ∧ (wf41 x.f13)

end Go.Proofs.Ytikbpjdgihheiaa.P
end
section
namespace Go.Proofs.Ytikbpjdgihheiaa.P
open Go.RowKit Go.Proofs.YtikbpjdgihheiaaW.PrintWords Go.Proofs.YtikbpjdgihheiaaW.PrintLast Go.Proofs.YtikbpjdgihheiaaW.PrintMore
attribute [local go_sem] max2_int min2_int max_two min_two max_three min_three max_four min_four   -- for this text's walks alone
attribute [local go_sem ↓] Kp.LDAsk_in
attribute [local go_sem] Kp.LDAsk_run
set_option linter.unusedVariables false
set_option linter.unusedSimpArgs false

/-! ### headgatelaw18_light: function 8 -/
mutual
def headgatelaw18_light.j0 : Nat → Bool → Int → Int → Int → Int → List Int → List (S59) → Option (Bool)
  | 0, _, _, _, _, _, _, _ => none
  | k + 1, x13, x102000, x102001, x102002, x102003, x102004, x102005 => if x13 = true then (some false) else (headgatelaw18_light.l0 k 0 x102000 x102001 x102002 x102003 x102004 x102005)
def headgatelaw18_light.l0 : Nat → Int → Int → Int → Int → Int → List Int → List (S59) → Option (Bool)
  | 0, _, _, _, _, _, _, _ => none
  | k + 1, x3, x102000, x102001, x102002, x102003, x102004, x102005 => if x3 < (x102005.length : Int) then (if 0 ≤ x3 then (if (((rd_T59 x102005 x3).f1.f2).size : Int) > 1000 then (some false) else (headgatelaw18_light.l0 k (wrap64 (x3 + 1)) x102000 x102001 x102002 x102003 x102004 x102005)) else (none)) else (some true)
end
def headgatelaw18_light.f (k : Nat) (a0_0 : Int) (a0_1 : Int) (a0_2 : Int) (a0_3 : Int) (l0_4 : List Int) (l0_5 : List (S59)) : Option (Bool) := if (l0_4.length : Int) > 100 then (headgatelaw18_light.j0 k true a0_0 a0_1 a0_2 a0_3 l0_4 l0_5) else (headgatelaw18_light.j0 k (decide ((l0_5.length : Int) > 100)) a0_0 a0_1 a0_2 a0_3 l0_4 l0_5)
set_option maxHeartbeats 8000000 in
set_option maxRecDepth 100000 in
theorem headgatelaw18_light.calls (k : Nat) (a0_0 : Int) (a0_1 : Int) (a0_2 : Int) (a0_3 : Int) (A0_4 : Option Addr) (c0_4 : Nat) (l0_4 : List Int) (A0_5 : Option Addr) (c0_5 : Nat) (l0_5 : List (S59)) (r : Bool) (w : World) (hr0_4 : Kd.C (Kd.int .i64) w A0_4 l0_4.length l0_4) (hc0_4 : l0_4.length ≤ c0_4) (hr0_5 : Kd.C k59 w A0_5 l0_5.length l0_5) (hc0_5 : l0_5.length ≤ c0_5) (h : headgatelaw18_light.f k a0_0 a0_1 a0_2 a0_3 l0_4 l0_5 = some r) :
    Calls Try.prog 8 #[.agg #[.int .i64 a0_0, .int .i64 a0_1, .int .i64 a0_2, .int .i64 a0_3, .slice A0_4 l0_4.length c0_4, .slice A0_5 l0_5.length c0_5]] w fun e w' => e = .returned (.bool r) ∧ Below w.heap.size w w' := by
 have hu26 := Try.underlying26
 have HR0_4 := Aside0.mk hr0_4
 have HC0_4 := Aside0.mk hc0_4
 clear hr0_4 hc0_4
 have HR0_5 := Aside0.mk hr0_5
 have HC0_5 := Aside0.mk hc0_5
 clear hr0_5 hc0_5
 have HB := Aside0.mk (Below.refl w.heap.size w)
 have H : (if (l0_4.length : Int) > 100 then (headgatelaw18_light.j0 k true a0_0 a0_1 a0_2 a0_3 l0_4 l0_5) else (headgatelaw18_light.j0 k (decide ((l0_5.length : Int) > 100)) a0_0 a0_1 a0_2 a0_3 l0_4 l0_5)) = some r := h
 clear h
 have HC2 := Aside0.mk H
 clear H
 go_enter Try.func8, Try.ntmps8
 go_upto_region 1 with (first | ((with_reducible refine gate_dst (N := 1) rfl ?_); (try (refine gate_guard (by rfl) ?_; dsimp only)); refine box_event ?hg (N := 1) ?hd (cs := #[.int .i64 a0_0, .int .i64 a0_1, .int .i64 a0_2, .int .i64 a0_3, .slice A0_4 l0_4.length c0_4, .slice A0_5 l0_5.length c0_5]) (t := 26) ?hr ?_; (case hd => rfl); (case hg => rfl); (case hr => first | (go_simp; done) | (go_simp; rfl)); intro gb101 hg w3 hbox hb; have BK101 := Aside0.mk (hbox); have GW101 := Aside0.mk (Zz.ge hg HB.out); have GE101 := Aside0.mk (Zz.ge hg HB.out); replace HB := Aside0.mk (below_step (Zz.i HB.out) hb); clear hb hbox hg))
 (try simp only [Act.put, List.setIfInBounds_toArray, List.set_cons_zero, List.set_cons_succ])
 go_cut [13] (fun v13 wc => ∃ (kq : Nat) (x13_1 : Bool), v13 = .bool x13_1 ∧ Aside0 (headgatelaw18_light.j0 kq x13_1 a0_0 a0_1 a0_2 a0_3 l0_4 l0_5 = some r) ∧ Aside0 (kq ≤ k) ∧ Aside0 (wc.heap[gb101]? = some (.cells #[.int .i64 a0_0, .int .i64 a0_1, .int .i64 a0_2, .int .i64 a0_3, (.slice A0_4 l0_4.length c0_4), (.slice A0_5 l0_5.length c0_5)] 26 (0, 0))) ∧ Aside0 (Below w.heap.size w wc))
 case first =>
  have H := HC2.out
  clear HC2
  by_cases c4 : (l0_4.length : Int) > 100
  ·rw [if_pos c4] at H
   have c4b0 : decide (100 < (l0_4.length : Int)) = true := decide_eq_true c4
   have c4b1 : decide (100 < l0_4.length) = true := decide_eq_true (by omega)
   clear c4
   (first | rw [c4b0] | rw [c4b9] | (simp only [i64_w, i32_w]; rw [c4b0]) | skip)
   have H' := Aside0.mk H
   clear H
   have hcz5 := Zz.c6 BK101.out
   have hfz5 := blk_frozen BK101.out
   go_wp2
   go_meet
   case rel => exact ⟨_, (true), Zz.q, H', ⟨by first | omega | exact Nat.le_refl _⟩, ⟨Zz.p BK101.out⟩, ⟨Zz.i HB.out⟩⟩
  rw [if_neg c4] at H
  have c4b0 : decide (100 < (l0_4.length : Int)) = false := decide_eq_false c4
  have c4b1 : decide (100 < l0_4.length) = false := decide_eq_false (by omega)
  clear c4
  (first | rw [c4b0] | rw [c4b9] | (simp only [i64_w, i32_w]; rw [c4b0]) | skip)
  have H' := Aside0.mk H
  clear H
  have hcz6 := Zz.c6 BK101.out
  have hfz6 := blk_frozen BK101.out
  go_wp2
  go_meet
  case rel => exact ⟨_, (decide ((l0_5.length : Int) > 100)), Zz.q, H', ⟨by first | omega | exact Nat.le_refl _⟩, ⟨Zz.p BK101.out⟩, ⟨Zz.i HB.out⟩⟩
 clear HC2
 (try clear p2);(try clear c4);(try clear c4b0);(try clear c4b1);(try clear hcz5);(try clear hcz6);(try clear hfz5);(try clear hfz6)
 obtain ⟨kq, x13_1, rfl, HA, HJ1, BK101, HB⟩ := hcut
 cases kq with
 | zero => exact absurd HA.out (by simp [headgatelaw18_light.j0])
 | succ kj1 =>
  have H := HA.out
  clear HA
  simp only [headgatelaw18_light.j0] at H
  by_cases c7 : x13_1 = true
  ·subst c7
   rw [if_pos rfl] at H
   obtain rfl := Option.some.inj H
   go_wp2
   go_ret
   exact ⟨Zr.e, Zz.i HB.out⟩
  replace c7 := Bool.eq_false_iff.mpr c7
  subst c7
  rw [if_neg Bool.false_ne_true] at H
  have H' := Aside0.mk H
  clear H
  go_wp2
  go_loopg [3] kj1 (fun kq v3 w' => ∃ (x3_2 : Int), v3 = .int .i64 x3_2 ∧ Aside0 (headgatelaw18_light.l0 kq x3_2 a0_0 a0_1 a0_2 a0_3 l0_4 l0_5 = some r) ∧ Aside0 (kq ≤ kj1) ∧ Aside0 (w'.heap[gb101]? = some (.cells #[.int .i64 a0_0, .int .i64 a0_1, .int .i64 a0_2, .int .i64 a0_3, (.slice A0_4 l0_4.length c0_4), (.slice A0_5 l0_5.length c0_5)] 26 (0, 0))) ∧ Aside0 (Below w.heap.size w w'))
  case atStart => exact ⟨(0), Zz.q, H', ⟨Nat.le_refl _⟩, ⟨Zz.p BK101.out⟩, ⟨Zz.i HB.out⟩⟩
  case round =>
   clear H'
   (try clear p2);(try clear c4);(try clear c4b0);(try clear c4b1);(try clear c7);(try clear hcz5);(try clear hcz6);(try clear hfz5);(try clear hfz6)
   obtain ⟨x3_2, rfl, HA, HK2, BK101, HB⟩ := hrel
   cases gk with
   | zero => exact absurd HA.out (by simp [headgatelaw18_light.l0])
   | succ k2 =>
    have H := HA.out
    clear HA
    simp only [headgatelaw18_light.l0] at H
    by_cases c8 : x3_2 < (l0_5.length : Int)
    ·rw [if_pos c8] at H
     have c8b0 : decide (x3_2 < (l0_5.length : Int)) = true := decide_eq_true c8
     clear c8
     by_cases c9 : 0 ≤ x3_2
     ·rw [if_pos c9] at H
      have c9b0 : decide (0 ≤ x3_2) = true := decide_eq_true c9
      clear c9
      by_cases c10 : (((rd_T59 l0_5 x3_2).f1.f2).size : Int) > 1000
      ·rw [if_pos c10] at H
       have c10b0 : decide (1000 < (((rd_T59 l0_5 x3_2).f1.f2).size : Int)) = true := decide_eq_true c10
       have c10b1 : decide (1000 < ((rd_T59 l0_5 x3_2).f1.f2).size) = true := decide_eq_true (by omega)
       clear c10
       obtain rfl := Option.some.inj H
       have hcz11 := Zz.c6 BK101.out
       have hfz11 := blk_frozen BK101.out
       have p102 : 0 ≤ (x3_2 : Int) := of_decide_eq_true (by first | (with_reducible assumption) | assumption)
       have q102 : x3_2 < (l0_5.length : Int) := of_decide_eq_true (by first | (with_reducible assumption) | assumption)
       obtain ⟨ad102, e102, hx102_0, hx102_1, hx102_2, hx102_3⟩ := at_T59 HR0_5.out x3_2 p102 q102
       cases e102
       replace hx102_0 := (HB.out.cell (World.block_lt_of_cell? w _ hx102_0)).trans hx102_0
       replace hx102_1 := (HB.out.cell (World.block_lt_of_cell? w _ hx102_1)).trans hx102_1
       replace hx102_2 := (HB.out.cell (World.block_lt_of_cell? w _ hx102_2)).trans hx102_2
       replace hx102_3 := (HB.out.cell (World.block_lt_of_cell? w _ hx102_3)).trans hx102_3
       replace p102 := eq_true p102
       replace q102 := eq_true q102
       go_wp2
       go_ret
       exact ⟨Zr.e, Zz.i HB.out⟩
      rw [if_neg c10] at H
      have c10b0 : decide (1000 < (((rd_T59 l0_5 x3_2).f1.f2).size : Int)) = false := decide_eq_false c10
      have c10b1 : decide (1000 < ((rd_T59 l0_5 x3_2).f1.f2).size) = false := decide_eq_false (by omega)
      clear c10
      have H' := Aside0.mk H
      clear H
      have hcz12 := Zz.c6 BK101.out
      have hfz12 := blk_frozen BK101.out
      have p102 : 0 ≤ (x3_2 : Int) := of_decide_eq_true (by first | (with_reducible assumption) | assumption)
      have q102 : x3_2 < (l0_5.length : Int) := of_decide_eq_true (by first | (with_reducible assumption) | assumption)
      obtain ⟨ad102, e102, hx102_0, hx102_1, hx102_2, hx102_3⟩ := at_T59 HR0_5.out x3_2 p102 q102
      cases e102
      replace hx102_0 := (HB.out.cell (World.block_lt_of_cell? w _ hx102_0)).trans hx102_0
      replace hx102_1 := (HB.out.cell (World.block_lt_of_cell? w _ hx102_1)).trans hx102_1
      replace hx102_2 := (HB.out.cell (World.block_lt_of_cell? w _ hx102_2)).trans hx102_2
      replace hx102_3 := (HB.out.cell (World.block_lt_of_cell? w _ hx102_3)).trans hx102_3
      replace p102 := eq_true p102
      replace q102 := eq_true q102
      go_wp2
      go_roundg k2
      case measure => have := HJ1.out; have := HK2.out; omega
      case rel => exact ⟨(wrap64 (x3_2 + 1)), Zz.q, H', ⟨by have := HJ1.out; have := HK2.out; omega⟩, ⟨Zz.p BK101.out⟩, ⟨Zz.i HB.out⟩⟩
     rw [if_neg c9] at H
     exact absurd H (by simp)
    rw [if_neg c8] at H
    have c8b0 : decide (x3_2 < (l0_5.length : Int)) = false := decide_eq_false c8
    clear c8
    obtain rfl := Option.some.inj H
    have hcz13 := Zz.c6 BK101.out
    have hfz13 := blk_frozen BK101.out
    go_wp2
    go_ret
    exact ⟨Zr.e, Zz.i HB.out⟩

-- NOT PRINTED: function 63 (slices_IndexFunc_int_int)

-- NOT PRINTED: function 54 (slices_ContainsFunc_int_int)

/-! ### wire_within: function 21 -/
theorem wire_within.drawn_trans {a b c : World} (h : Drawn0 a b) (h2 : Drawn0 b c) : Drawn0 a c := by
  obtain ⟨m, rfl⟩ := h2
  exact h.step m
def wire_within.p (n : Int) : Bool := decide (n < 0 ∨ n > 1099511627776)
def wire_within.f (l0 : List Int) : Option Bool := some (!(l0.any wire_within.p))
set_option maxHeartbeats 4000000 in
set_option maxRecDepth 100000 in
theorem wire_within.pred (a0 : Int) (w : World) : Calls Try.prog 55 #[.int .i64 a0] w fun e w' => e = .returned (.bool (wire_within.p a0)) ∧ Drawn0 w w' := by
  unfold wire_within.p
  by_cases h1 : a0 < 0
  · rw [decide_eq_true (Or.inl h1)]
    replace h1 := decide_eq_true h1
    go_enter Try.func55, Try.ntmps55
    go_wp2
    go_ret
    exact ⟨rfl, Drawn0.refl _⟩
  · by_cases h2 : a0 > 1099511627776
    · rw [decide_eq_true (Or.inr h2)]
      replace h1 := decide_eq_false h1
      replace h2 := decide_eq_true h2
      go_enter Try.func55, Try.ntmps55
      go_wp2
      go_ret
      exact ⟨rfl, Drawn0.refl _⟩
    · rw [decide_eq_false (fun h => h.elim h1 h2)]
      replace h1 := decide_eq_false h1
      replace h2 := decide_eq_false h2
      go_enter Try.func55, Try.ntmps55
      go_wp2
      go_ret
      exact ⟨rfl, Drawn0.refl _⟩
set_option maxHeartbeats 8000000 in
set_option maxRecDepth 100000 in
theorem wire_within.index (A0 : Option Addr) (c0 : Nat) (l0 : List Int) (w : World) (hr0 : Kd.C (Kd.int .i64) w A0 l0.length l0) (hc0 : l0.length ≤ c0) :
    Calls Try.prog 63 #[.slice A0 l0.length c0, .func (.func 55) #[] #[]] w fun e w' => (∃ i : Int, e = .returned (.int .i64 i) ∧ decide (i ≥ 0) = l0.any wire_within.p) ∧ Drawn0 w w' := by
 have HC := Aside0.mk hr0
 have hlb := hr0.2.1
 have eg : ∀ args w, (callFunc 55 args).run Try.prog w = .ok (.enter 55 args) w := enters_of Try.func55 (by kernel_rfl) rfl
 clear hr0
 go_enter Try.func63, Try.ntmps63
 go_wp2
 go_loopw [5, 8] (fun v5 v8 wr => ∃ j : Nat, j ≤ l0.length ∧ v8 = .int .i64 j ∧ Aside0 (Drawn0 w wr) ∧ Aside0 (∀ i, i < j → wire_within.p (rd l0 (i : Int)) = false)) (fun _ v8 _ => l0.length - (intOf v8).toNat)
 case atStart =>
  exact ⟨0, Nat.zero_le _, rfl, ⟨Drawn0.refl _⟩, ⟨fun i hi => absurd hi (Nat.not_lt_zero _)⟩⟩
 case round =>
  obtain ⟨j, hj, rfl, HD, HP⟩ := hrel
  by_cases hlt : j < l0.length
  ·obtain ⟨ad, rfl, hcell⟩ := Kd.at_int HC.out (j : Int) (by omega) (by omega)
   replace hcell := (HD.out.below.cell (World.block_lt_of_cell? w _ hcell)).trans hcell
   rw [Int.toNat_natCast] at hcell
   have hji : (j : Int) < (l0.length : Int) := by omega
   have hpred := wire_within.pred (rd l0 (j : Int))
   cases hq : wire_within.p (rd l0 (j : Int)) with
   | true =>
    rw [hq] at hpred
    go_wp2_with (go_at_fn 55; refine (hpred _).mono ?_; rintro e w' ⟨rfl, hd⟩)
    go_ret
    refine ⟨⟨_, rfl, ?_⟩, wire_within.drawn_trans HD.out hd⟩
    rw [decide_eq_true (by omega)]
    refine (List.any_eq_true.2 ⟨rd l0 (j : Int), ?_, hq⟩).symm
    rw [rd, Int.toNat_natCast, List.getD_eq_getElem?_getD, List.getElem?_eq_getElem hlt]
    exact List.getElem_mem hlt
   | false =>
    rw [hq] at hpred
    go_wp2_with (go_at_fn 55; refine (hpred _).mono ?_; rintro e w' ⟨rfl, hd⟩)
    go_roundw
    case rel =>
     refine ⟨j + 1, by omega, by go_num, ⟨wire_within.drawn_trans HD.out hd⟩, ⟨fun i hi => ?_⟩⟩
     by_cases e : i = j
     ·subst e; exact hq
     exact HP.out i (by omega)
    case measure => simp [intOf]; omega
  obtain rfl : j = l0.length := by omega
  have hji : ¬ ((l0.length : Nat) : Int) < ((l0.length : Nat) : Int) := by omega
  go_wp2
  go_ret
  refine ⟨⟨_, rfl, ?_⟩, HD.out⟩
  rw [show decide ((-1 : Int) ≥ 0) = false from rfl]
  symm
  rw [List.any_eq_false]
  intro x hx
  obtain ⟨i, hi, rfl⟩ := List.getElem_of_mem hx
  have := HP.out i hi
  rw [rd, Int.toNat_natCast, List.getD_eq_getElem?_getD, List.getElem?_eq_getElem hi] at this
  rw [Bool.not_eq_true]
  exact this
set_option maxHeartbeats 4000000 in
set_option maxRecDepth 100000 in
theorem wire_within.contains (A0 : Option Addr) (c0 : Nat) (l0 : List Int) (w : World) (hr0 : Kd.C (Kd.int .i64) w A0 l0.length l0) (hc0 : l0.length ≤ c0) :
    Calls Try.prog 54 #[.slice A0 l0.length c0, .func (.func 55) #[] #[]] w fun e w' => e = .returned (.bool (l0.any wire_within.p)) ∧ Drawn0 w w' := by
 have HC := Aside0.mk hr0
 clear hr0
 go_enter Try.func54, Try.ntmps54
 go_wp2_with (go_at_call 63; refine (wire_within.index _ _ l0 _ HC.out hc0).mono ?_; rintro e w1 ⟨⟨i, rfl, hi⟩, hd⟩)
 go_ret
 refine ⟨?_, hd⟩
 rw [← hi]
 rfl
set_option maxHeartbeats 4000000 in
set_option maxRecDepth 100000 in
theorem wire_within.calls (A0 : Option Addr) (c0 : Nat) (l0 : List Int) (r : Bool) (w : World) (hr0 : Kd.C (Kd.int .i64) w A0 l0.length l0) (hc0 : l0.length ≤ c0) (h : wire_within.f l0 = some r) :
    Calls Try.prog 21 #[.slice A0 l0.length c0] w fun e w' => e = .returned (.bool r) ∧ Drawn0 w w' := by
 have HC := Aside0.mk hr0
 unfold wire_within.f at h
 injection h with h
 subst h
 clear hr0
 go_enter Try.func21, Try.ntmps21
 go_wp2_with (go_at_call 54; refine (wire_within.contains _ _ l0 _ HC.out hc0).mono ?_; rintro e w1 ⟨rfl, hd⟩)
 go_ret
 exact ⟨rfl, hd⟩

-- NOT PRINTED: function 64 (abi_NoEscape)

-- NOT PRINTED: function 56 (strings_Builder_copyCheck)

-- NOT PRINTED: function 22 (strings_Builder_WriteString)

/-! ### varint_Put: function 24 -/
def varint_Put.f (a0 : Int) : Option ByteArray := if Vm.I64 a0 then some (Vm.bs (Vm.enc a0)) else none
theorem varint_Put.bits_xor0 (a : Nat) (ha : a < 18446744073709551616) : Go.bits .xor .u64 (a : Int) 0 = (a : Int) := by
  have e : BitVec.ofInt 64 (a : Int) ^^^ BitVec.ofInt 64 0 = BitVec.ofNat 64 a := by simp
  unfold Go.bits
  show IntKind.u64.wrap ((BitVec.ofInt 64 (a : Int) ^^^ BitVec.ofInt 64 0).toNat : Int) = _
  rw [e, BitVec.toNat_ofNat, IntKind.wrap_u64]
  omega
theorem varint_Put.bits_xor1 (a : Nat) (ha : a < 18446744073709551616) : Go.bits .xor .u64 (a : Int) 18446744073709551615 = ((18446744073709551615 - a : Nat) : Int) := by
  have e : BitVec.ofInt 64 (a : Int) ^^^ BitVec.ofInt 64 18446744073709551615 = ~~~ BitVec.ofNat 64 a := by
    rw [show BitVec.ofInt 64 18446744073709551615 = BitVec.allOnes 64 by decide, BitVec.xor_allOnes, BitVec.ofInt_natCast]
  unfold Go.bits
  show IntKind.u64.wrap ((BitVec.ofInt 64 (a : Int) ^^^ BitVec.ofInt 64 18446744073709551615).toNat : Int) = _
  rw [e, BitVec.toNat_not, BitVec.toNat_ofNat, IntKind.wrap_u64]
  omega
theorem varint_Put.zz_eq (n : Int) (h : Vm.I64 n) : Go.bits .xor .u64 (IntKind.u64.wrap (IntKind.u64.wrap n * 2)) (IntKind.u64.wrap (n / 9223372036854775808)) = (Vm.zz n : Int) := by
  unfold Vm.I64 at h
  rw [IntKind.wrap_u64, IntKind.wrap_u64, IntKind.wrap_u64]
  by_cases h0 : n < 0
  · have e1 : (n / 9223372036854775808) % 18446744073709551616 = 18446744073709551615 := by omega
    obtain ⟨a, ha⟩ := Int.eq_ofNat_of_zero_le (show 0 ≤ n % 18446744073709551616 * 2 % 18446744073709551616 by omega)
    rw [e1, ha, varint_Put.bits_xor1 a (by omega)]
    unfold Vm.zz
    rw [if_pos h0]
    omega
  · have e1 : (n / 9223372036854775808) % 18446744073709551616 = 0 := by omega
    obtain ⟨a, ha⟩ := Int.eq_ofNat_of_zero_le (show 0 ≤ n % 18446744073709551616 * 2 % 18446744073709551616 by omega)
    rw [e1, ha, varint_Put.bits_xor0 a (by omega)]
    unfold Vm.zz
    rw [if_neg h0]
    omega
theorem varint_Put.or128 (v : Nat) : Go.bits .or .u8 ((v : Int) % 256) 128 = ((v % 128 + 128 : Nat) : Int) := by
  have key : ∀ a : Fin 256, Go.bits .or .u8 ((a.val : Nat) : Int) 128 = ((a.val % 128 + 128 : Nat) : Int) := by decide +kernel
  have := key ⟨v % 256, by omega⟩
  simp only at this
  rw [show (v : Int) % 256 = ((v % 256 : Nat) : Int) by omega, this]
  omega
set_option maxRecDepth 100000 in
theorem varint_Put.cut (b j : Nat) (hj : j < 10) (W : World) : (Instr.sliceAt 112 (.pointer (some ⟨b, 0, none⟩)) none (some (.int .i64 ((j : Int) + 1))) none).run Try.prog W = .ok (.slice (some ⟨b, 0, none⟩) (j + 1) 10) W := by
  have hl : Try.prog.arrayLen 112 = 10 := by kernel_rfl
  have hs : ∀ W : World, (sizeOf (Try.prog.elem 112)).run Try.prog W = .ok 1 W := fun W => by rfl
  rw [run_sliceAt_array_h W 112 _ Try.underlying112 .i64 _ (by omega) (by rw [hl]; omega), hs, hl]
  have e : ((j : Int) + 1).toNat = j + 1 := by omega
  simp [Result.andThen, slicedAt, e, Addr.add]
theorem varint_Put.told (W : World) (base b j : Nat) (hj : j < 10) (pre : List UInt8) (xs : List Int) (v : Nat) (hv : v < 256) (hp : pre.length = j) (hl : xs.length = 10) (ht : xs.take j = pre.map fun c => (c.toNat : Int))
    (ho : W.ownsRow base 112 1 (.slice (some ⟨b, 0, none⟩) 10 10) 10 (nums .u8 xs)) :
    (convert 62 9 (.slice (some ⟨b, 0, none⟩) (j + 1) 10)).run Try.prog (W.setCell ⟨b, j, none⟩ (.int .u8 (v : Int))) = .ok (.string (Vm.bs (pre ++ [UInt8.ofNat v]))) (W.setCell ⟨b, j, none⟩ (.int .u8 (v : Int))) := by
  have hst := (own_store ho (j : Int) (v : Int)).1
  rw [Int.toNat_natCast] at hst
  have hx : ((xs.set j (v : Int)).take (j + 1)) = (pre ++ [UInt8.ofNat v]).map fun c => (c.toNat : Int) := by
    rw [List.take_succ_eq_append_getElem (by simp; omega), List.take_set_of_le (by omega), ht]
    simp [Vm.toNat_ofNat_lt hv]
  rw [run_convert_bytes_arg _ 62 5 Try.underlying62 Try.underlying5 b 0 (j + 1) 10 ((xs.set j (v : Int)).take (j + 1)) (by simp; omega) (fun i hi => ?_) 9 Try.underlying9]
  · rw [hx, Vm.strOfNums_bs, List.map_map]
    congr 3
    have : ((fun n : Int => UInt8.ofNat n.toNat) ∘ fun c : UInt8 => (c.toNat : Int)) = id := by
      funext c
      simp
    rw [this, List.map_id]
  · have hc := (own_at hst (i : Int) (by omega) (by omega)).1
    rw [Int.toNat_natCast] at hc
    rw [Nat.zero_add, hc]
    simp [rd, List.getD_eq_getElem?_getD, List.getElem?_take, hi]
set_option maxHeartbeats 8000000 in
set_option maxRecDepth 100000 in
theorem varint_Put.calls (a0 : Int) (r : ByteArray) (w : World) (h : varint_Put.f a0 = some r) :
    Calls Try.prog 24 #[.int .i64 a0] w fun e w' => e = .returned (.string r) ∧ Below w.heap.size w w' := by
 unfold varint_Put.f at h
 split at h
 case isFalse => cases h
 rename_i hn
 have hr : r = Vm.bs (Vm.enc a0) := by injection h with h; exact h.symm
 clear h
 have hz := Lib.hid (varint_Put.zz_eq a0 hn)
 have hzl := Lib.hid (Vm.zz_lt.2 hn)
 have HR := Lib.hid hr
 clear hr hn
 go_enter Try.func24, Try.ntmps24
 go_wp2
 go_loopw [3, 5] (fun u k wr => ∃ (j f v : Nat) (pre : List UInt8) (xs : List Int), j + f = 9 ∧ u = .int .u64 v ∧ k = .int .i64 j ∧ v < 2 * 128 ^ f ∧ Aside0 (Vm.enc a0 = pre ++ Vm.sev f v) ∧ Aside0 (pre.length = j) ∧ Aside0 (xs.length = 10) ∧ Aside0 (xs.take j = pre.map fun b => (b.toNat : Int)) ∧ Aside0 (wr.ownsRow w.heap.size 112 1 (.slice (some ⟨w.heap.size, 0, none⟩) 10 10) 10 (nums .u8 xs)) ∧ Aside0 (Below w.heap.size w wr)) (fun _ k _ => (10 - intOf k).toNat)
 case atStart =>
  exact ⟨0, 9, Vm.zz a0, [], List.replicate 10 0, rfl, by rw [hz.out], rfl, hzl.out, ⟨rfl⟩, ⟨rfl⟩, ⟨rfl⟩, ⟨rfl⟩, ⟨World.ownsRow_lit (base := w.heap.size) (e := 112) (size := 1) w (nums .u8 (List.replicate 10 0)).toArray 10 (Nat.le_refl _) (by decide) (by simp [nums])⟩, ⟨below_alloc (Below.refl _ _) _⟩⟩
 case round =>
  obtain ⟨j, f, v, pre, xs, hj, rfl, rfl, hv, HE, HP, HL, HT, HO, HB⟩ := hrel
  have hj10 : j < 10 := by omega
  have hc := own_at HO.out (j : Int) (by omega) (by omega)
  rw [Int.toNat_natCast] at hc
  obtain ⟨hc1, hc2⟩ := hc
  by_cases hlt : 128 ≤ v
  ·have hor := varint_Put.or128 v
   have hf : 0 < f := by
    rcases Nat.eq_zero_or_pos f with h0 | h0
    ·subst h0; omega
    exact h0
   go_wp2
   go_roundw
   case rel =>
    obtain ⟨f, rfl⟩ : ∃ m, f = m + 1 := ⟨f - 1, by omega⟩
    have hs : 2 * 128 ^ (f + 1) = 128 * (2 * 128 ^ f) := by rw [Nat.pow_succ]; omega
    have hst := own_store HO.out (j : Int) ((v : Int) % 128 + 128)
    rw [Int.toNat_natCast] at hst
    have he : (v : Int) % 128 + 128 = ((UInt8.ofNat (v % 128 + 128)).toNat : Int) := by rw [Vm.toNat_ofNat_lt (by omega)]; omega
    refine ⟨j + 1, f, v / 128, pre ++ [UInt8.ofNat (v % 128 + 128)], xs.set j ((v : Int) % 128 + 128), by omega, congrArg (Value.int .u64) (by omega), congrArg (Value.int .i64) (by omega), by omega, ⟨?_⟩, ⟨by simp [HP.out]⟩, ⟨by simp [HL.out]⟩, ⟨?_⟩, ⟨hst.1⟩, ⟨?_⟩⟩
    ·rw [HE.out, Vm.sev_succ, if_neg (by omega)]; simp
    ·rw [List.take_succ_eq_append_getElem (by simp [HL.out]; omega), List.take_set_of_le (by omega), HT.out]
     rw [List.getElem_set_self, List.map_append, he]
     rfl
    exact pw_below_grown HB.out _ HB.out.size hst.2 (fun k hk => by injection hk with hk; omega)
   case measure => simp [intOf]; omega
  have kb := varint_Put.told wr w.heap.size w.heap.size j hj10 pre xs v (by omega) HP.out HL.out HT.out HO.out
  have ks := varint_Put.cut w.heap.size j hj10
  have hr : Vm.bs (pre ++ [UInt8.ofNat v]) = r := by
   rw [HR.out, HE.out]
   congr 2
   cases f with
   | zero => rfl
   | succ f => rw [Vm.sev_succ, if_pos (by omega)]
  rw [hr] at kb
  have hb : Below w.heap.size w (wr.setCell ⟨w.heap.size, j, none⟩ (.int .u8 v)) := by
   have hst := own_store HO.out (j : Int) (v : Int)
   rw [Int.toNat_natCast] at hst
   exact pw_below_grown HB.out _ HB.out.size hst.2 (fun k hk => by injection hk with hk; omega)
  have HBN := Aside0.mk hb
  clear hb hr
  go_wp2
  go_ret
  exact ⟨rfl, HBN.out⟩

-- NOT PRINTED: function 27 (strings_Builder_String)

end Go.Proofs.Ytikbpjdgihheiaa.P
end
