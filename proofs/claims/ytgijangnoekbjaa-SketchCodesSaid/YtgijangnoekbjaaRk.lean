-- Written by wip/mk.py of this repo: the kit's print program, with contracts of our own among its functions.
import Derived.Test.YtgijangnoekbjaaPx0
import Derived.Test.YtgijangnoekbjaaRd
import Derived.Test.YtgijangnoekbjaaProg
import Derived.KernelRfl
set_option maxRecDepth 100000
namespace Go.Proofs.Ytgijangnoekbjaa.P
open Go.RowKit Go.Proofs.Ytgijangnoekbjaa Go.Proofs.YtgijangnoekbjaaW.PrintWords Go.Proofs.YtgijangnoekbjaaW.PrintLast
theorem rd61 : Rd.Rd Try.prog k61 61 wf61 := Rd.struct Try.underlying61 (fun x : S61 => (x.f0, x.f1)) (fun a => (⟨a.1, a.2⟩ : S61)) (fun _ => rfl) (by kernel_rfl) (Rd.cons (Rd.int Try.underlying3) rfl (by kernel_rfl) rfl (by decide) (Rd.last (Rd.int Try.underlying3) rfl (by kernel_rfl)))
end Go.Proofs.Ytgijangnoekbjaa.P
