-- Written by wip/mk.py of this repo: the kit's print program, with contracts of our own among its functions.
import Derived.Test.YtdbgfkdjdddfmaaPx0
import Derived.Test.YtdbgfkdjdddfmaaPx1
import Derived.Test.YtdbgfkdjdddfmaaPx2
import Derived.Test.YtdbgfkdjdddfmaaPx3
import Derived.Test.YtdbgfkdjdddfmaaPx4
import Derived.Test.YtdbgfkdjdddfmaaPx5
import Derived.Test.YtdbgfkdjdddfmaaPx6
namespace Go.Proofs.Ytdbgfkdjdddfmaa.P
open Go.RowKit Go.Proofs.YtdbgfkdjdddfmaaW.PrintWords Go.Proofs.YtdbgfkdjdddfmaaW.PrintLast Go.Proofs.YtdbgfkdjdddfmaaW.PrintMore
attribute [local go_sem] max2_int min2_int max_two min_two max_three min_three max_four min_four   -- for this text's walks alone
set_option linter.unusedVariables false
set_option linter.unusedSimpArgs false

end Go.Proofs.Ytdbgfkdjdddfmaa.P
