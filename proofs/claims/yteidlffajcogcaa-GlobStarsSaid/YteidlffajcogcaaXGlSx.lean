-- Laid by extprint.py (the session's own driver): functions told by the kit's printer and by hand.
import Derived.Test.YteidlffajcogcaaXGlSx0
import Derived.Test.YteidlffajcogcaaXGlSx1
import Derived.Test.YteidlffajcogcaaXGlSx2
import Derived.Test.YteidlffajcogcaaXGlSx3
namespace Go.Proofs.Yteidlffajcogcaa.XGlS
open Go.RowKit Gong Go.Proofs.YteidlffajcogcaaW.PrintWords Go.Proofs.YteidlffajcogcaaW.PrintLast Go.Proofs.YteidlffajcogcaaW.PrintMore
attribute [local go_sem] max2_int min2_int max_two min_two max_three min_three max_four min_four   -- for this text's walks alone
set_option linter.unusedVariables false
set_option linter.unusedSimpArgs false

end Go.Proofs.Yteidlffajcogcaa.XGlS
