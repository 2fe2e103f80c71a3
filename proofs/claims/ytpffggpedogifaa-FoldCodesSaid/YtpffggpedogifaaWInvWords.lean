-- Cut from a text that the kit's print.sh printed: only the declarations that this claim names.
import Derived.Test.YtpffggpedogifaaWInv
import Derived.Test.YtpffggpedogifaaWFootNe
namespace Go.Proofs.YtpffggpedogifaaW.PrintWords
open Go.RowKit
end Go.Proofs.YtpffggpedogifaaW.PrintWords
namespace Go.Proofs.YtpffggpedogifaaW.PrintLast
section
variable {ops : Array Oper} {a : Act} {o og : Oper} {g : Nat} {t : Tmp} {u : Bool}
end
end Go.Proofs.YtpffggpedogifaaW.PrintLast
