-- Written by wip/mk.py of this repo: the kit's print program, with contracts of our own among its functions.
import Derived.Test.YtpffggpedogifaaPx0
import Derived.Test.YtpffggpedogifaaRd
import Derived.Test.YtpffggpedogifaaProg
import Derived.KernelRfl
set_option maxRecDepth 100000
namespace Go.Proofs.Ytpffggpedogifaa.P
open Go.RowKit Go.Proofs.Ytpffggpedogifaa Go.Proofs.YtpffggpedogifaaW.PrintWords Go.Proofs.YtpffggpedogifaaW.PrintLast
theorem rd22 : Rd.Rd Try.prog k22 22 wf22 := Rd.array Try.underlying22 (fun x : S22 => (x.f0, x.f1, x.f2, x.f3)) (fun a => (⟨a.1, a.2.1, a.2.2.1, a.2.2.2⟩ : S22)) (fun _ => rfl) (by kernel_rfl) (Rd.acons (Rd.int Try.underlying3) (by kernel_rfl) (by decide) (Rd.acons (Rd.int Try.underlying3) (by kernel_rfl) (by decide) (Rd.acons (Rd.int Try.underlying3) (by kernel_rfl) (by decide) (Rd.alast (Rd.int Try.underlying3) (by kernel_rfl) rfl))))
theorem rd24 : Rd.Rd Try.prog k24 24 wf24 := Rd.struct Try.underlying24 (fun x : S24 => (x.f0, x.f1, x.f2, x.f3, x.f4, x.f5, x.f6)) (fun a => (⟨a.1, a.2.1, a.2.2.1, a.2.2.2.1, a.2.2.2.2.1, a.2.2.2.2.2.1, a.2.2.2.2.2.2⟩ : S24)) (fun _ => rfl) (by kernel_rfl) (Rd.cons (Rd.int Try.underlying3) rfl (by kernel_rfl) rfl (by decide) (Rd.cons (Rd.int Try.underlying3) rfl (by kernel_rfl) rfl (by decide) (Rd.cons (Rd.int Try.underlying3) rfl (by kernel_rfl) rfl (by decide) (Rd.cons (Rd.int Try.underlying3) rfl (by kernel_rfl) rfl (by decide) (Rd.cons rd22 rfl (by kernel_rfl) rfl (by decide) (Rd.cons (Rd.int Try.underlying3) rfl (by kernel_rfl) rfl (by decide) (Rd.last (Rd.int Try.underlying3) rfl (by kernel_rfl))))))))
end Go.Proofs.Ytpffggpedogifaa.P
