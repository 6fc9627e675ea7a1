-- Laid by extprint.py (the session's own driver): functions told by the kit's printer and by hand.
import Derived.Test.YtjcenencgnfffaaDoorXStRx0
import Derived.Test.YtjcenencgnfffaaDoorXStRx1
import Derived.Test.YtjcenencgnfffaaDoorXStRx2
import Derived.Test.YtjcenencgnfffaaDoorXStRx3
import Derived.Test.YtjcenencgnfffaaDoorXStRx4
import Derived.Test.YtjcenencgnfffaaDoorXStRx5
import Derived.Test.YtjcenencgnfffaaDoorXStRx6
import Derived.Test.YtjcenencgnfffaaDoorXStRx7
import Derived.Test.YtjcenencgnfffaaDoorXStRx8
import Derived.Test.YtjcenencgnfffaaDoorXStRx9
import Derived.Test.YtjcenencgnfffaaDoorXStRx10
import Derived.Test.YtjcenencgnfffaaDoorXStRx11
import Derived.Test.YtjcenencgnfffaaDoorXStRx12
import Derived.Test.YtjcenencgnfffaaDoorXStRx13
import Derived.Test.YtjcenencgnfffaaDoorXStRx14
import Derived.Test.YtjcenencgnfffaaDoorXStRx15
namespace Go.Proofs.YtjcenencgnfffaaDoor.XStR
open Go.RowKit Gong Go.Proofs.YtjcenencgnfffaaDoorW.PrintWords Go.Proofs.YtjcenencgnfffaaDoorW.PrintLast Go.Proofs.YtjcenencgnfffaaDoorW.PrintMore
attribute [local go_sem] max2_int min2_int max_two min_two max_three min_three max_four min_four   -- for this text's walks alone
set_option linter.unusedVariables false
set_option linter.unusedSimpArgs false

end Go.Proofs.YtjcenencgnfffaaDoor.XStR
