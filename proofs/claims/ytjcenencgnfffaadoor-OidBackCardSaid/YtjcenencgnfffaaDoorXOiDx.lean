-- Laid by extprint.py (the session's own driver): functions told by the kit's printer and by hand.
import Derived.Test.YtjcenencgnfffaaDoorXOiDx0
import Derived.Test.YtjcenencgnfffaaDoorXOiDx1
import Derived.Test.YtjcenencgnfffaaDoorXOiDx2
import Derived.Test.YtjcenencgnfffaaDoorXOiDx3
import Derived.Test.YtjcenencgnfffaaDoorXOiDx4
import Derived.Test.YtjcenencgnfffaaDoorXOiDx5
import Derived.Test.YtjcenencgnfffaaDoorXOiDx6
namespace Go.Proofs.YtjcenencgnfffaaDoor.XOiD
open Go.RowKit Gong Go.Proofs.YtjcenencgnfffaaDoorW.PrintWords Go.Proofs.YtjcenencgnfffaaDoorW.PrintLast Go.Proofs.YtjcenencgnfffaaDoorW.PrintMore
attribute [local go_sem] max2_int min2_int max_two min_two max_three min_three max_four min_four   -- for this text's walks alone
set_option linter.unusedVariables false
set_option linter.unusedSimpArgs false

end Go.Proofs.YtjcenencgnfffaaDoor.XOiD
