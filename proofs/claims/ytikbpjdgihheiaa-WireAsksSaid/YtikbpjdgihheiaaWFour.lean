-- Cut from a text that the kit's print.sh printed: only the declarations that this claim names.
import Derived.Test.YtikbpjdgihheiaaWTab
namespace Go.Proofs.YtikbpjdgihheiaaW.PrintLast
section
variable {P : Program} {ops : Array Oper} {Q : Exit → Act → World → Prop} {md : Region.Mode} {S : World → Prop} {ds : List Nat} {T : Bool × List (List Nat × List Nat)}
end
end Go.Proofs.YtikbpjdgihheiaaW.PrintLast
