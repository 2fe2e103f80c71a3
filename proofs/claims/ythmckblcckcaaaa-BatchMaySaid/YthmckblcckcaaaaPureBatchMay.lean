/- For any batch: batch.Check tells what the document's reference tells, batch.Len too; chapter 6's examples hold. No condition. -/
import Derived.Test.YthmckblcckcaaaaPx9
import Derived.Test.YthmckblcckcaaaaBe
set_option linter.unusedVariables false
namespace Go.Proofs.Ythmckblcckcaaaa.Pure
open Go.RowKit Go.Proofs.Ythmckblcckcaaaa.Vm Go.Proofs.Ythmckblcckcaaaa.Bt Go.Proofs.Ythmckblcckcaaaa.Be Go.Proofs.Ythmckblcckcaaaa.P Go.Proofs.YthmckblcckcaaaaW.PrintWords Go.Proofs.YthmckblcckcaaaaW.PrintLast Go.Proofs.YthmckblcckcaaaaW.PrintMore
theorem BatchMay : headgatelaw06_BatchMay.Pure := by
  intro kd p e s l h1 h2 h3 h4 hl
  refine ⟨l.length + 100, ?_⟩
  unfold headgatelaw06_BatchMay.f
  rw [light_eq kd p e s l hl.1 _ (by omega), Option.bind_some]
  by_cases c : light l = true
  · rw [if_pos c, check_eq kd p e s l hl.1 _ (by omega), Option.bind_some, rMay_eq kd p e s l hl.1 _ (by omega), Option.bind_some]
    have hlen : batch_Len.f kd p e s l = headgateref06_Len.f kd p e s l := by
      unfold batch_Len.f headgateref06_Len.f mx
      by_cases h0 : (l.length : Int) = 0
      · rw [if_neg (by omega), if_pos h0]
      · rw [if_neg h0]
        by_cases h1 : (1 : Int) < (l.length : Int)
        · rw [if_pos h1]
        · rw [if_neg h1]; exact congrArg some (by omega)
    obtain ⟨n, hn⟩ : ∃ n, headgateref06_Len.f kd p e s l = some n := by unfold headgateref06_Len.f; split <;> exact ⟨_, rfl⟩
    rw [if_pos (by cases mayB kd p e s l <;> rfl), Option.bind_some, Option.bind_some, if_pos (by cases mayB kd p e s l <;> rfl), hlen, hn, Option.bind_some, Option.bind_some, if_pos rfl, awake_eq _ (by omega), Option.bind_some]
  · rw [if_neg c, awake_eq _ (by omega), Option.bind_some]
end Go.Proofs.Ythmckblcckcaaaa.Pure
