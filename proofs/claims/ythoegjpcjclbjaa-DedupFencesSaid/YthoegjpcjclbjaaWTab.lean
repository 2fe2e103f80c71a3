-- Cut from a text that the kit's print.sh printed: only the declarations that this claim names.
import Derived.Test.YthoegjpcjclbjaaWLast
import Derived.Test.YthoegjpcjclbjaaWWords
namespace Go.Proofs.YthoegjpcjclbjaaW.PrintLast
open Go.Proofs.YthoegjpcjclbjaaW.PrintWords (Aside0)
section
variable {md : Region.Mode} {ops : Array Oper} {T : Bool × List (List Nat × List Nat)} {l l' li lj lk : Array Bool} {ds : List Nat} {i j k : Nat}
end
end Go.Proofs.YthoegjpcjclbjaaW.PrintLast
