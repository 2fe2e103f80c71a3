/- For anything and any number: fold.Add comes to what the document's reference comes to, and the number's sort is the document's; chapter 15's example holds. No condition. -/
import Derived.Test.YtpffggpedogifaaPx8
import Derived.Test.YtpffggpedogifaaFa
set_option linter.unusedVariables false
namespace Go.Proofs.Ytpffggpedogifaa.Pure
open Go.RowKit Go.Proofs.Ytpffggpedogifaa.Vm Go.Proofs.Ytpffggpedogifaa.Fa Go.Proofs.Ytpffggpedogifaa.P Go.Proofs.YtpffggpedogifaaW.PrintWords Go.Proofs.YtpffggpedogifaaW.PrintLast
theorem FoldAdds : headgatelaw15_FoldAdds.Pure := by
  intro a0 a1 a2 a3 a4 a5 a6 a7 a8 a9 v h0 h1 h2 h3 h4 h5 h6 h7 h8 h9 h
  refine ⟨30, ?_⟩
  have ha : (⟨a0, a1, a2, a3, a4, a5, a6, a7, a8, a9⟩ : Ag).I := ⟨i64_of h0, i64_of h1, i64_of h2, i64_of h3, i64_of h4, i64_of h5, i64_of h6, i64_of h7, i64_of h8, i64_of h9⟩
  unfold headgatelaw15_FoldAdds.f
  rw [show fold_Add.f 30 a0 a1 a2 a3 a4 a5 a6 a7 a8 a9 v = _ from add_eq ha (i64_of h) 27, Option.bind_some, show headgateref15_Add.f 30 a0 a1 a2 a3 a4 a5 a6 a7 a8 a9 v = _ from radd_eq ha (i64_of h) 22, Option.bind_some, if_pos (by simp), sort_eq, Option.bind_some, rsort_eq, Option.bind_some, if_pos rfl, awake_eq _ (by omega), Option.bind_some]
end Go.Proofs.Ytpffggpedogifaa.Pure
