/- For any number and any bucket: sketch.Of, sketch.Ends tell what the document's references tell, and chapter 29's examples hold. No condition. -/
import Derived.Test.YtgijangnoekbjaaPx2
import Derived.Test.YtgijangnoekbjaaSp
set_option linter.unusedVariables false
namespace Go.Proofs.Ytgijangnoekbjaa.Pure
open Go.RowKit Go.Proofs.Ytgijangnoekbjaa.Vm Go.Proofs.Ytgijangnoekbjaa.Sm Go.Proofs.Ytgijangnoekbjaa.Sp Go.Proofs.Ytgijangnoekbjaa.P Go.Proofs.YtgijangnoekbjaaW.PrintWords Go.Proofs.YtgijangnoekbjaaW.PrintLast
theorem SketchOf : headgatelaw29_SketchOf.Pure := by
  intro v b hv hb
  refine ⟨100, ?_⟩
  unfold headgatelaw29_SketchOf.f
  rw [ends_eq (i64_of hb), Option.bind_some, rends_eq (i64_of hb) 100 (by omega), Option.bind_some, of_eq (i64_of hv), Option.bind_some, rof_eq (i64_of hv) 100 (by omega), Option.bind_some, if_pos rfl, if_pos rfl, if_pos rfl, if_pos rfl, awake_eq, Option.bind_some]
end Go.Proofs.Ytgijangnoekbjaa.Pure
