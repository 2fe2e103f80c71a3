-- Written by wip/mk.py of this repo: the kit's print program, with contracts of our own among its functions.
import Derived.Test.YtleongigmjhegaaPx0
import Derived.Test.YtleongigmjhegaaRd
import Derived.Test.YtleongigmjhegaaProg
import Derived.KernelRfl
set_option maxRecDepth 100000
namespace Go.Proofs.Ytleongigmjhegaa.P
open Go.RowKit Go.Proofs.Ytleongigmjhegaa Go.Proofs.YtleongigmjhegaaW.PrintWords Go.Proofs.YtleongigmjhegaaW.PrintLast
theorem rd24 : Rd.Rd Try.prog k24 24 wf24 := Rd.struct Try.underlying24 (fun x : S24 => (x.f0, x.f1, x.f2)) (fun a => (⟨a.1, a.2.1, a.2.2⟩ : S24)) (fun _ => rfl) (by kernel_rfl) (Rd.cons (Rd.int Try.underlying3) rfl (by kernel_rfl) rfl (by decide) (Rd.cons (Rd.int Try.underlying3) rfl (by kernel_rfl) rfl (by decide) (Rd.last (Rd.int Try.underlying3) rfl (by kernel_rfl))))
theorem rd27 : Rd.Rd Try.prog k27 27 wf27 := Rd.struct Try.underlying27 (fun x : S27 => (x.f0, x.f1, x.f2, x.f3, x.f4)) (fun a => (⟨a.1, a.2.1, a.2.2.1, a.2.2.2.1, a.2.2.2.2⟩ : S27)) (fun _ => rfl) (by kernel_rfl) (Rd.cons (Rd.int Try.underlying3) rfl (by kernel_rfl) rfl (by decide) (Rd.cons (Rd.int Try.underlying3) rfl (by kernel_rfl) rfl (by decide) (Rd.cons (Rd.int Try.underlying3) rfl (by kernel_rfl) rfl (by decide) (Rd.cons (Rd.int Try.underlying3) rfl (by kernel_rfl) rfl (by decide) (Rd.last (Rd.int Try.underlying3) rfl (by kernel_rfl))))))
end Go.Proofs.Ytleongigmjhegaa.P
