/- Whoever takes whatever, of any accounts: quota.Take's answer is the document's, and what was handed in stays; chapter 36's example holds. No condition. -/
import Derived.Test.YtkelkigkoceljaaPx12
import Derived.Test.YtkelkigkoceljaaQt
set_option linter.unusedVariables false
namespace Go.Proofs.Ytkelkigkoceljaa.Pure
open Go.RowKit Go.Proofs.Ytkelkigkoceljaa.Qt Go.Proofs.Ytkelkigkoceljaa.P Go.Proofs.YtkelkigkoceljaaW.PrintWords Go.Proofs.YtkelkigkoceljaaW.PrintLast Go.Proofs.YtkelkigkoceljaaW.PrintMore
theorem QuotaTakes : headgatelaw36_QuotaTakes.Pure := by
  intro tick most l who n now h1 h2 hl h3 h4 h5
  refine ⟨l.length + 1048800, ?_⟩
  have hl1 := hl.1
  unfold headgatelaw36_QuotaTakes.f
  by_cases c : (l.length : Int) > 80
  · rw [if_pos c, awake_eq _ (by omega), Option.bind_some]
  · have hs : l.length ≤ 64 ∨ rightB tick most l now = false := by
      rcases Nat.lt_or_ge 64 l.length with h | h
      · right
        rw [Bool.eq_false_iff]
        intro hr
        have := (rightB_iff.1 hr).1
        omega
      · exact .inl h
    have hn := takeV_len tick most l who n now
    rw [if_neg c, if_pos (by simp only [List.length_nil]; omega), Option.bind_some, List.nil_append, take_eq _ _ _ _ _ _ hl1 _ (by omega), Option.bind_some, take_ref _ _ _ _ _ _ hl1 _ (by omega) hs, Option.bind_some, rsame_self _ (by omega) _ (by omega), Option.bind_some, if_pos rfl, if_pos rfl, if_pos rfl, rsame_self _ hl1 _ (by omega), Option.bind_some, if_pos rfl, check_eq, Option.bind_some, rmay_eq, Option.bind_some]
    rw [if_pos (by by_cases q : 1 ≤ tick ∧ tick ≤ 1048576 ∧ 1 ≤ most ∧ most ≤ 1048576
                   · rw [if_pos q, decide_eq_true q]; rfl
                   · rw [if_neg q, decide_eq_false q]; rfl), awake_eq _ (by omega), Option.bind_some]
end Go.Proofs.Ytkelkigkoceljaa.Pure
