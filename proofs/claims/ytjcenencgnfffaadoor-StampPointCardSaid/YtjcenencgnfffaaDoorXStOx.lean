-- Laid by extprint.py (the session's own driver): functions told by the kit's printer and by hand.
import Derived.Test.YtjcenencgnfffaaDoorXStOx0
import Derived.Test.YtjcenencgnfffaaDoorXStOx1
import Derived.Test.YtjcenencgnfffaaDoorXStOx2
import Derived.Test.YtjcenencgnfffaaDoorXStOx3
import Derived.Test.YtjcenencgnfffaaDoorXStOx4
import Derived.Test.YtjcenencgnfffaaDoorXStOx5
import Derived.Test.YtjcenencgnfffaaDoorXStOx6
import Derived.Test.YtjcenencgnfffaaDoorXStOx7
import Derived.Test.YtjcenencgnfffaaDoorXStOx8
import Derived.Test.YtjcenencgnfffaaDoorXStOx9
import Derived.Test.YtjcenencgnfffaaDoorXStOx10
import Derived.Test.YtjcenencgnfffaaDoorXStOx11
import Derived.Test.YtjcenencgnfffaaDoorXStOx12
import Derived.Test.YtjcenencgnfffaaDoorXStOx13
import Derived.Test.YtjcenencgnfffaaDoorXStOx14
import Derived.Test.YtjcenencgnfffaaDoorXStOx15
import Derived.Test.YtjcenencgnfffaaDoorXStOx16
import Derived.Test.YtjcenencgnfffaaDoorXStOx17
namespace Go.Proofs.YtjcenencgnfffaaDoor.XStO
open Go.RowKit Gong Go.Proofs.YtjcenencgnfffaaDoorW.PrintWords Go.Proofs.YtjcenencgnfffaaDoorW.PrintLast Go.Proofs.YtjcenencgnfffaaDoorW.PrintMore
attribute [local go_sem] max2_int min2_int max_two min_two max_three min_three max_four min_four   -- for this text's walks alone
set_option linter.unusedVariables false
set_option linter.unusedSimpArgs false

end Go.Proofs.YtjcenencgnfffaaDoor.XStO
