-- Cut from a text that the kit's print.sh printed: only the declarations that this claim names.
import Derived.Test.YtikbpjdgihheiaaWInv
import Derived.Test.YtikbpjdgihheiaaWFootNe
namespace Go.Proofs.YtikbpjdgihheiaaW.PrintWords
open Go.RowKit
end Go.Proofs.YtikbpjdgihheiaaW.PrintWords
namespace Go.Proofs.YtikbpjdgihheiaaW.PrintLast
section
variable {ops : Array Oper} {a : Act} {o og : Oper} {g : Nat} {t : Tmp} {u : Bool}
end
end Go.Proofs.YtikbpjdgihheiaaW.PrintLast
