-- Written by wip/mk.py of this repo: the kit's print program, with contracts of our own among its functions.
import Derived.Test.YtgfmbddkefjchaaPx0
import Derived.Test.YtgfmbddkefjchaaRd
import Derived.Test.YtgfmbddkefjchaaProg
import Derived.KernelRfl
set_option maxRecDepth 100000
namespace Go.Proofs.Ytgfmbddkefjchaa.P
open Go.RowKit Go.Proofs.Ytgfmbddkefjchaa Go.Proofs.YtgfmbddkefjchaaW.PrintWords Go.Proofs.YtgfmbddkefjchaaW.PrintLast
theorem rd23 : Rd.Rd Try.prog k23 23 wf23 := Rd.struct Try.underlying23 (fun x : S23 => (x.f0, x.f1, x.f2)) (fun a => (⟨a.1, a.2.1, a.2.2⟩ : S23)) (fun _ => rfl) (by kernel_rfl) (Rd.cons (Rd.int Try.underlying3) rfl (by kernel_rfl) rfl (by decide) (Rd.cons (Rd.int Try.underlying3) rfl (by kernel_rfl) rfl (by decide) (Rd.last (Rd.string Try.underlying9) rfl (by kernel_rfl))))
end Go.Proofs.Ytgfmbddkefjchaa.P
