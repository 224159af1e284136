-- By wip/tools/printplus.py of this session, over the kit's print; what is by hand in it is this session's own.
import Derived.Test.YtfaoilalhneijaaPGx0
import Derived.Test.YtfaoilalhneijaaPGx1
import Derived.Test.YtfaoilalhneijaaPGx2
import Derived.Test.YtfaoilalhneijaaPGx3
import Derived.Test.YtfaoilalhneijaaPGx4
import Derived.Test.YtfaoilalhneijaaPGx5
import Derived.Test.YtfaoilalhneijaaPGx6
import Derived.Test.YtfaoilalhneijaaPGx7
namespace Go.Proofs.Ytfaoilalhneijaa.PG
open Go.RowKit Go.Proofs.YtfaoilalhneijaaW.PrintWords Go.Proofs.YtfaoilalhneijaaW.PrintLast Go.Proofs.YtfaoilalhneijaaW.PrintMore
attribute [local go_sem] max2_int min2_int max_two min_two max_three min_three max_four min_four   -- for this text's walks alone
set_option linter.unusedVariables false
set_option linter.unusedSimpArgs false

end Go.Proofs.Ytfaoilalhneijaa.PG
