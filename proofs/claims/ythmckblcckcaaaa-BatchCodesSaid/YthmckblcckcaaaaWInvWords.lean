-- Cut from a text that the kit's print.sh printed: only the declarations that this claim names.
import Derived.Test.YthmckblcckcaaaaWInv
import Derived.Test.YthmckblcckcaaaaWFootNe
namespace Go.Proofs.YthmckblcckcaaaaW.PrintWords
open Go.RowKit
end Go.Proofs.YthmckblcckcaaaaW.PrintWords
namespace Go.Proofs.YthmckblcckcaaaaW.PrintLast
section
variable {ops : Array Oper} {a : Act} {o og : Oper} {g : Nat} {t : Tmp} {u : Bool}
end
end Go.Proofs.YthmckblcckcaaaaW.PrintLast
