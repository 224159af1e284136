-- By wip/tools/printplus.py of this session, over the kit's print; what is by hand in it is this session's own.
import Derived.Test.YtnmiagcjfbdfkaaPVx0
import Derived.Test.YtnmiagcjfbdfkaaPVx1
import Derived.Test.YtnmiagcjfbdfkaaPVx2
import Derived.Test.YtnmiagcjfbdfkaaPVx3
import Derived.Test.YtnmiagcjfbdfkaaPVx4
namespace Go.Proofs.Ytnmiagcjfbdfkaa.PV
open Go.RowKit Go.Proofs.YtnmiagcjfbdfkaaW.PrintWords Go.Proofs.YtnmiagcjfbdfkaaW.PrintLast Go.Proofs.YtnmiagcjfbdfkaaW.PrintMore
attribute [local go_sem] max2_int min2_int max_two min_two max_three min_three max_four min_four   -- for this text's walks alone
set_option linter.unusedVariables false
set_option linter.unusedSimpArgs false

end Go.Proofs.Ytnmiagcjfbdfkaa.PV
