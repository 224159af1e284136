-- By wip/tools/printplus.py of this session, over the kit's print; what is by hand in it is this session's own.
import Derived.Test.YtjhinakfoejpbaaPRx0
import Derived.Test.YtjhinakfoejpbaaPRx1
import Derived.Test.YtjhinakfoejpbaaPRx2
import Derived.Test.YtjhinakfoejpbaaPRx3
import Derived.Test.YtjhinakfoejpbaaPRx4
namespace Go.Proofs.Ytjhinakfoejpbaa.PR
open Go.RowKit Go.Proofs.YtjhinakfoejpbaaW.PrintWords Go.Proofs.YtjhinakfoejpbaaW.PrintLast Go.Proofs.YtjhinakfoejpbaaW.PrintMore
attribute [local go_sem] max2_int min2_int max_two min_two max_three min_three max_four min_four   -- for this text's walks alone
set_option linter.unusedVariables false
set_option linter.unusedSimpArgs false

end Go.Proofs.Ytjhinakfoejpbaa.PR
