-- Laid by extprint.py (the session's own driver): functions told by the kit's printer and by hand.
import Derived.Test.YtjcenencgnfffaaDoorXStWx0
import Derived.Test.YtjcenencgnfffaaDoorXStWx1
import Derived.Test.YtjcenencgnfffaaDoorXStWx2
import Derived.Test.YtjcenencgnfffaaDoorXStWx3
import Derived.Test.YtjcenencgnfffaaDoorXStWx4
import Derived.Test.YtjcenencgnfffaaDoorXStWx5
import Derived.Test.YtjcenencgnfffaaDoorXStWx6
import Derived.Test.YtjcenencgnfffaaDoorXStWx7
import Derived.Test.YtjcenencgnfffaaDoorXStWx8
import Derived.Test.YtjcenencgnfffaaDoorXStWx9
import Derived.Test.YtjcenencgnfffaaDoorXStWx10
import Derived.Test.YtjcenencgnfffaaDoorXStWx11
import Derived.Test.YtjcenencgnfffaaDoorXStWx12
namespace Go.Proofs.YtjcenencgnfffaaDoor.XStW
open Go.RowKit Gong Go.Proofs.YtjcenencgnfffaaDoorW.PrintWords Go.Proofs.YtjcenencgnfffaaDoorW.PrintLast Go.Proofs.YtjcenencgnfffaaDoorW.PrintMore
attribute [local go_sem] max2_int min2_int max_two min_two max_three min_three max_four min_four   -- for this text's walks alone
set_option linter.unusedVariables false
set_option linter.unusedSimpArgs false

end Go.Proofs.YtjcenencgnfffaaDoor.XStW
