-- Written by wip/mk.py of this repo: the kit's print program, with contracts of our own among its functions.
import Derived.Test.YthoegjpcjclbjaaPx0
import Derived.Test.YthoegjpcjclbjaaRd
import Derived.Test.YthoegjpcjclbjaaProg
import Derived.KernelRfl
set_option maxRecDepth 100000
namespace Go.Proofs.Ythoegjpcjclbjaa.P
open Go.RowKit Go.Proofs.Ythoegjpcjclbjaa Go.Proofs.YthoegjpcjclbjaaW.PrintWords Go.Proofs.YthoegjpcjclbjaaW.PrintLast
theorem rd49 : Rd.Rd Try.prog k49 49 wf49 := Rd.struct Try.underlying49 (fun x : S49 => (x.f0, x.f1, x.f2)) (fun a => (⟨a.1, a.2.1, a.2.2⟩ : S49)) (fun _ => rfl) (by kernel_rfl) (Rd.cons (Rd.int Try.underlying3) rfl (by kernel_rfl) rfl (by decide) (Rd.cons (Rd.int Try.underlying3) rfl (by kernel_rfl) rfl (by decide) (Rd.last (Rd.string Try.underlying9) rfl (by kernel_rfl))))
theorem rd44 : Rd.Rd Try.prog k44 44 wf44 := Rd.struct Try.underlying44 (fun x : S44 => (x.f0, x.f1, x.f2, x.f3, x.f4)) (fun a => (⟨a.1, a.2.1, a.2.2.1, a.2.2.2.1, a.2.2.2.2⟩ : S44)) (fun _ => rfl) (by kernel_rfl) (Rd.cons (Rd.int Try.underlying3) rfl (by kernel_rfl) rfl (by decide) (Rd.cons (Rd.int Try.underlying3) rfl (by kernel_rfl) rfl (by decide) (Rd.cons (Rd.int Try.underlying3) rfl (by kernel_rfl) rfl (by decide) (Rd.cons (Rd.int Try.underlying3) rfl (by kernel_rfl) rfl (by decide) (Rd.last (Rd.int Try.underlying3) rfl (by kernel_rfl))))))
theorem rd25 : Rd.Rd Try.prog k25 25 wf25 := Rd.struct Try.underlying25 (fun x : S25 => (x.f0, x.f1, x.f2, x.f3, x.f4)) (fun a => (⟨a.1, a.2.1, a.2.2.1, a.2.2.2.1, a.2.2.2.2⟩ : S25)) (fun _ => rfl) (by kernel_rfl) (Rd.cons (Rd.int Try.underlying3) rfl (by kernel_rfl) rfl (by decide) (Rd.cons (Rd.int Try.underlying3) rfl (by kernel_rfl) rfl (by decide) (Rd.cons (Rd.int Try.underlying3) rfl (by kernel_rfl) rfl (by decide) (Rd.cons (Rd.int Try.underlying3) rfl (by kernel_rfl) rfl (by decide) (Rd.last (Rd.slice Try.underlying23 rd49 (by kernel_rfl)) rfl (by kernel_rfl))))))
end Go.Proofs.Ythoegjpcjclbjaa.P
