-- Written by wip/mk.py of this repo: the kit's print program, with contracts of our own among its functions.
import Derived.Test.YtkelkigkoceljaaPx0
import Derived.Test.YtkelkigkoceljaaRd
import Derived.Test.YtkelkigkoceljaaProg
import Derived.KernelRfl
set_option maxRecDepth 100000
namespace Go.Proofs.Ytkelkigkoceljaa.P
open Go.RowKit Go.Proofs.Ytkelkigkoceljaa Go.Proofs.YtkelkigkoceljaaW.PrintWords Go.Proofs.YtkelkigkoceljaaW.PrintLast
theorem rd49 : Rd.Rd Try.prog k49 49 wf49 := Rd.struct Try.underlying49 (fun x : S49 => (x.f0, x.f1, x.f2)) (fun a => (⟨a.1, a.2.1, a.2.2⟩ : S49)) (fun _ => rfl) (by kernel_rfl) (Rd.cons (Rd.int Try.underlying3) rfl (by kernel_rfl) rfl (by decide) (Rd.cons (Rd.int Try.underlying3) rfl (by kernel_rfl) rfl (by decide) (Rd.last (Rd.int Try.underlying3) rfl (by kernel_rfl))))
theorem rd23 : Rd.Rd Try.prog k23 23 wf23 := Rd.struct Try.underlying23 (fun x : S23 => (x.f0, x.f1)) (fun a => (⟨a.1, a.2⟩ : S23)) (fun _ => rfl) (by kernel_rfl) (Rd.cons (Rd.int Try.underlying3) rfl (by kernel_rfl) rfl (by decide) (Rd.last (Rd.int Try.underlying3) rfl (by kernel_rfl)))
theorem rd37 : Rd.Rd Try.prog k37 37 wf37 := Rd.struct Try.underlying37 (fun x : S37 => (x.f0, x.f1, x.f2)) (fun a => (⟨a.1, a.2.1, a.2.2⟩ : S37)) (fun _ => rfl) (by kernel_rfl) (Rd.cons (Rd.int Try.underlying3) rfl (by kernel_rfl) rfl (by decide) (Rd.cons (Rd.int Try.underlying3) rfl (by kernel_rfl) rfl (by decide) (Rd.last (Rd.int Try.underlying3) rfl (by kernel_rfl))))
end Go.Proofs.Ytkelkigkoceljaa.P
