-- Cut from a text that the kit's print.sh printed: only the declarations that this claim names.
import Derived.Test.YtikbpjdgihheiaaWN
namespace Go.Proofs.YtikbpjdgihheiaaW.PrintWords
open Go.RowKit
namespace Kd
section
variable {α : Type} {d : Kd α} {W : World} {g n : Nat} {S ok : Nat → Prop} {A : Option Addr} {ad : Addr} {xs : List α}
end
end Kd
end Go.Proofs.YtikbpjdgihheiaaW.PrintWords
