/- For any sketch (any buckets), any part and any number of parts: sketch.Quantile tells what the document's reference tells. No condition. -/
import Derived.Test.YtgijangnoekbjaaPx6
import Derived.Test.YtgijangnoekbjaaSq
set_option linter.unusedVariables false
namespace Go.Proofs.Ytgijangnoekbjaa.Pure
open Go.RowKit Go.Proofs.Ytgijangnoekbjaa.Vm Go.Proofs.Ytgijangnoekbjaa.Sm Go.Proofs.Ytgijangnoekbjaa.Sp Go.Proofs.Ytgijangnoekbjaa.Sc Go.Proofs.Ytgijangnoekbjaa.Sq Go.Proofs.Ytgijangnoekbjaa.P Go.Proofs.YtgijangnoekbjaaW.PrintWords Go.Proofs.YtgijangnoekbjaaW.PrintLast
theorem SketchQuantiles : headgatelaw29_SketchQuantiles.Pure := by
  intro s part o hs hp ho
  refine ⟨s.length + 3, ?_⟩
  unfold headgatelaw29_SketchQuantiles.f headgatelaw29_light.f
  rw [Option.bind_some]
  by_cases h : ((s.length : Int) ≤ 200)
  · obtain ⟨q1, q2⟩ := quant_eq s hs.2 hs.1 part o (s.length + 3) (by omega)
    rw [if_pos (decide_eq_true h), q1, Option.bind_some, q2, Option.bind_some, if_pos rfl, if_pos rfl, awake_eq, Option.bind_some]
  · rw [if_neg (by rw [decide_eq_true_eq]; exact h), awake_eq, Option.bind_some]
end Go.Proofs.Ytgijangnoekbjaa.Pure
