/- A whole request into its variable: one step (cell by cell the kernel's work doubles with each cell). -/
import Derived.Test.YtikbpjdgihheiaaKp
import Derived.Deep.MidRow
set_option linter.unusedVariables false
namespace Go.Proofs.Ytikbpjdgihheiaa.Ks
open Go.RowKit Go.Proofs.YtikbpjdgihheiaaW.PrintWords Go.Proofs.YtikbpjdgihheiaaW.PrintLast
def STAsk (p v : Value) : Sem Unit := Instr.storeAt 43 p v
theorem STAsk_in (p v : Value) : Instr.storeAt 43 p v = STAsk p v := rfl
set_option maxRecDepth 10000 in
theorem STAsk_run {w : World} {g : Nat} {n0 : Int} {n1 : Int} {n2 : Int} {n3 : Int} {n4 : Int} {n5 : Int} {n6 : Int} {n7 : Int} {n8 : Int} {n9 : Int} {n10 : Int} {n11 : Int} {b12 : Bool} {n13 : Int} {n14 : Int} {n15 : Int} {n16 : Int} {A17 : Option Addr} {l17 c17 : Nat} (h0 : (w.cell? ⟨g, 0, none⟩).isSome = true) (h1 : (w.cell? ⟨g, 1, none⟩).isSome = true) (h2 : (w.cell? ⟨g, 2, none⟩).isSome = true) (h3 : (w.cell? ⟨g, 3, none⟩).isSome = true) (h4 : (w.cell? ⟨g, 4, none⟩).isSome = true) (h5 : (w.cell? ⟨g, 5, none⟩).isSome = true) (h6 : (w.cell? ⟨g, 6, none⟩).isSome = true) (h7 : (w.cell? ⟨g, 7, none⟩).isSome = true) (h8 : (w.cell? ⟨g, 8, none⟩).isSome = true) (h9 : (w.cell? ⟨g, 9, none⟩).isSome = true) (h10 : (w.cell? ⟨g, 10, none⟩).isSome = true) (h11 : (w.cell? ⟨g, 11, none⟩).isSome = true) (h12 : (w.cell? ⟨g, 12, none⟩).isSome = true) (h13 : (w.cell? ⟨g, 13, none⟩).isSome = true) (h14 : (w.cell? ⟨g, 14, none⟩).isSome = true) (h15 : (w.cell? ⟨g, 15, none⟩).isSome = true) (h16 : (w.cell? ⟨g, 16, none⟩).isSome = true) (h17 : (w.cell? ⟨g, 17, none⟩).isSome = true) (f0 : w.frozen? ⟨g, 0, none⟩ = false) (f1 : w.frozen? ⟨g, 1, none⟩ = false) (f2 : w.frozen? ⟨g, 2, none⟩ = false) (f3 : w.frozen? ⟨g, 3, none⟩ = false) (f4 : w.frozen? ⟨g, 4, none⟩ = false) (f5 : w.frozen? ⟨g, 5, none⟩ = false) (f6 : w.frozen? ⟨g, 6, none⟩ = false) (f7 : w.frozen? ⟨g, 7, none⟩ = false) (f8 : w.frozen? ⟨g, 8, none⟩ = false) (f9 : w.frozen? ⟨g, 9, none⟩ = false) (f10 : w.frozen? ⟨g, 10, none⟩ = false) (f11 : w.frozen? ⟨g, 11, none⟩ = false) (f12 : w.frozen? ⟨g, 12, none⟩ = false) (f13 : w.frozen? ⟨g, 13, none⟩ = false) (f14 : w.frozen? ⟨g, 14, none⟩ = false) (f15 : w.frozen? ⟨g, 15, none⟩ = false) (f16 : w.frozen? ⟨g, 16, none⟩ = false) (f17 : w.frozen? ⟨g, 17, none⟩ = false) :
    (STAsk (.pointer (some ⟨g, 0, none⟩)) (.agg #[.int .i64 n0, .int .i64 n1, .int .i64 n2, .int .i64 n3, .int .i64 n4, .int .i64 n5, .int .i64 n6, .int .i64 n7, .int .i64 n8, .int .i64 n9, .int .i64 n10, .int .i64 n11, .bool b12, .int .i64 n13, .int .i64 n14, .int .i64 n15, .int .i64 n16, .slice A17 l17 c17])).run Try.prog w = .ok () ((((((((((((((((((w.setCell ⟨g, 0, none⟩ (.int .i64 n0)).setCell ⟨g, 1, none⟩ (.int .i64 n1)).setCell ⟨g, 2, none⟩ (.int .i64 n2)).setCell ⟨g, 3, none⟩ (.int .i64 n3)).setCell ⟨g, 4, none⟩ (.int .i64 n4)).setCell ⟨g, 5, none⟩ (.int .i64 n5)).setCell ⟨g, 6, none⟩ (.int .i64 n6)).setCell ⟨g, 7, none⟩ (.int .i64 n7)).setCell ⟨g, 8, none⟩ (.int .i64 n8)).setCell ⟨g, 9, none⟩ (.int .i64 n9)).setCell ⟨g, 10, none⟩ (.int .i64 n10)).setCell ⟨g, 11, none⟩ (.int .i64 n11)).setCell ⟨g, 12, none⟩ (.bool b12)).setCell ⟨g, 13, none⟩ (.int .i64 n13)).setCell ⟨g, 14, none⟩ (.int .i64 n14)).setCell ⟨g, 15, none⟩ (.int .i64 n15)).setCell ⟨g, 16, none⟩ (.int .i64 n16)).setCell ⟨g, 17, none⟩ (.slice A17 l17 c17)) := by
  unfold STAsk
  have ht : w.there g 0 18 := fun j hj => by
    rw [Nat.zero_add]
    match j, hj with
    | 0, _ => exact ⟨h0, f0⟩
    | 1, _ => exact ⟨h1, f1⟩
    | 2, _ => exact ⟨h2, f2⟩
    | 3, _ => exact ⟨h3, f3⟩
    | 4, _ => exact ⟨h4, f4⟩
    | 5, _ => exact ⟨h5, f5⟩
    | 6, _ => exact ⟨h6, f6⟩
    | 7, _ => exact ⟨h7, f7⟩
    | 8, _ => exact ⟨h8, f8⟩
    | 9, _ => exact ⟨h9, f9⟩
    | 10, _ => exact ⟨h10, f10⟩
    | 11, _ => exact ⟨h11, f11⟩
    | 12, _ => exact ⟨h12, f12⟩
    | 13, _ => exact ⟨h13, f13⟩
    | 14, _ => exact ⟨h14, f14⟩
    | 15, _ => exact ⟨h15, f15⟩
    | 16, _ => exact ⟨h16, f16⟩
    | 17, _ => exact ⟨h17, f17⟩
    | n + 18, h => omega
  exact run_storeAt_mid w g 0 43 #[.int .i64 n0, .int .i64 n1, .int .i64 n2, .int .i64 n3, .int .i64 n4, .int .i64 n5, .int .i64 n6, .int .i64 n7, .int .i64 n8, .int .i64 n9, .int .i64 n10, .int .i64 n11, .bool b12, .int .i64 n13, .int .i64 n14, .int .i64 n15, .int .i64 n16, .slice A17 l17 c17] ht (by kernel_rfl) (by rw [← Array.all_toList]; rfl)
end Go.Proofs.Ytikbpjdgihheiaa.Ks
