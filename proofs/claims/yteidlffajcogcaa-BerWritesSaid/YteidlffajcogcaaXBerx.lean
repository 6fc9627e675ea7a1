-- Laid by extprint.py (the session's own driver): functions told by the kit's printer and by hand.
import Derived.Test.YteidlffajcogcaaXBerx0
import Derived.Test.YteidlffajcogcaaXBerx1
import Derived.Test.YteidlffajcogcaaXBerx2
import Derived.Test.YteidlffajcogcaaXBerx3
import Derived.Test.YteidlffajcogcaaXBerx4
import Derived.Test.YteidlffajcogcaaXBerx5
import Derived.Test.YteidlffajcogcaaXBerx6
import Derived.Test.YteidlffajcogcaaXBerx7
import Derived.Test.YteidlffajcogcaaXBerx8
import Derived.Test.YteidlffajcogcaaXBerx9
import Derived.Test.YteidlffajcogcaaXBerx10
import Derived.Test.YteidlffajcogcaaXBerx11
import Derived.Test.YteidlffajcogcaaXBerx12
namespace Go.Proofs.Yteidlffajcogcaa.XBer
open Go.RowKit Gong Go.Proofs.YteidlffajcogcaaW.PrintWords Go.Proofs.YteidlffajcogcaaW.PrintLast Go.Proofs.YteidlffajcogcaaW.PrintMore
attribute [local go_sem] max2_int min2_int max_two min_two max_three min_three max_four min_four   -- for this text's walks alone
set_option linter.unusedVariables false
set_option linter.unusedSimpArgs false

end Go.Proofs.Yteidlffajcogcaa.XBer
