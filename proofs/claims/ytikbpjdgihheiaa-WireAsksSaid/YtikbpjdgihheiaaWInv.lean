-- Cut from a text that the kit's print.sh printed: only the declarations that this claim names.
import Derived.Test.YtikbpjdgihheiaaWTab
namespace Go.Proofs.YtikbpjdgihheiaaW.PrintLast
section
variable {P : Program} {ops : Array Oper} {Q : Exit → Act → World → Prop} {md : Region.Mode} {T : Bool × List (List Nat × List Nat)} {B : List Nat} {O : List Nat} {b : Nat → Bool} {i j n : Nat}
end
end Go.Proofs.YtikbpjdgihheiaaW.PrintLast
