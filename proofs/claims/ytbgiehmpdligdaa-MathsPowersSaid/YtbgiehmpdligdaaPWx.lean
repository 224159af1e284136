-- By wip/tools/printplus.py of this session, over the kit's print; what is by hand in it is this session's own.
import Derived.Test.YtbgiehmpdligdaaPWx0
import Derived.Test.YtbgiehmpdligdaaPWx1
import Derived.Test.YtbgiehmpdligdaaPWx2
import Derived.Test.YtbgiehmpdligdaaPWx3
import Derived.Test.YtbgiehmpdligdaaPWx4
import Derived.Test.YtbgiehmpdligdaaPWx5
import Derived.Test.YtbgiehmpdligdaaPWx6
import Derived.Test.YtbgiehmpdligdaaPWx7
import Derived.Test.YtbgiehmpdligdaaPWx8
namespace Go.Proofs.Ytbgiehmpdligdaa.PW
open Go.RowKit Go.Proofs.YtbgiehmpdligdaaW.PrintWords Go.Proofs.YtbgiehmpdligdaaW.PrintLast Go.Proofs.YtbgiehmpdligdaaW.PrintMore
attribute [local go_sem] max2_int min2_int max_two min_two max_three min_three max_four min_four   -- for this text's walks alone
set_option linter.unusedVariables false
set_option linter.unusedSimpArgs false

end Go.Proofs.Ytbgiehmpdligdaa.PW
