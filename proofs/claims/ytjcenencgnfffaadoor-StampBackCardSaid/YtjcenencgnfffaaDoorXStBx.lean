-- Laid by extprint.py (the session's own driver): functions told by the kit's printer and by hand.
import Derived.Test.YtjcenencgnfffaaDoorXStBx0
import Derived.Test.YtjcenencgnfffaaDoorXStBx1
import Derived.Test.YtjcenencgnfffaaDoorXStBx2
import Derived.Test.YtjcenencgnfffaaDoorXStBx3
import Derived.Test.YtjcenencgnfffaaDoorXStBx4
import Derived.Test.YtjcenencgnfffaaDoorXStBx5
import Derived.Test.YtjcenencgnfffaaDoorXStBx6
import Derived.Test.YtjcenencgnfffaaDoorXStBx7
import Derived.Test.YtjcenencgnfffaaDoorXStBx8
import Derived.Test.YtjcenencgnfffaaDoorXStBx9
import Derived.Test.YtjcenencgnfffaaDoorXStBx10
import Derived.Test.YtjcenencgnfffaaDoorXStBx11
import Derived.Test.YtjcenencgnfffaaDoorXStBx12
namespace Go.Proofs.YtjcenencgnfffaaDoor.XStB
open Go.RowKit Gong Go.Proofs.YtjcenencgnfffaaDoorW.PrintWords Go.Proofs.YtjcenencgnfffaaDoorW.PrintLast Go.Proofs.YtjcenencgnfffaaDoorW.PrintMore
attribute [local go_sem] max2_int min2_int max_two min_two max_three min_three max_four min_four   -- for this text's walks alone
set_option linter.unusedVariables false
set_option linter.unusedSimpArgs false

end Go.Proofs.YtjcenencgnfffaaDoor.XStB
