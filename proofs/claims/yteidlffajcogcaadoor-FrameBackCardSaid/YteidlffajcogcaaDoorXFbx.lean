-- Laid by extprint.py (the session's own driver): functions told by the kit's printer and by hand.
import Derived.Test.YteidlffajcogcaaDoorXFbx0
import Derived.Test.YteidlffajcogcaaDoorXFbx1
import Derived.Test.YteidlffajcogcaaDoorXFbx2
import Derived.Test.YteidlffajcogcaaDoorXFbx3
namespace Go.Proofs.YteidlffajcogcaaDoor.XFb
open Go.RowKit Gong Go.Proofs.YteidlffajcogcaaDoorW.PrintWords Go.Proofs.YteidlffajcogcaaDoorW.PrintLast Go.Proofs.YteidlffajcogcaaDoorW.PrintMore
attribute [local go_sem] max2_int min2_int max_two min_two max_three min_three max_four min_four   -- for this text's walks alone
set_option linter.unusedVariables false
set_option linter.unusedSimpArgs false

end Go.Proofs.YteidlffajcogcaaDoor.XFb
