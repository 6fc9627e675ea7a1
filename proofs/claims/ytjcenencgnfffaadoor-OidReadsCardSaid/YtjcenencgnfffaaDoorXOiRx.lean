-- Laid by extprint.py (the session's own driver): functions told by the kit's printer and by hand.
import Derived.Test.YtjcenencgnfffaaDoorXOiRx0
import Derived.Test.YtjcenencgnfffaaDoorXOiRx1
import Derived.Test.YtjcenencgnfffaaDoorXOiRx2
import Derived.Test.YtjcenencgnfffaaDoorXOiRx3
import Derived.Test.YtjcenencgnfffaaDoorXOiRx4
import Derived.Test.YtjcenencgnfffaaDoorXOiRx5
import Derived.Test.YtjcenencgnfffaaDoorXOiRx6
namespace Go.Proofs.YtjcenencgnfffaaDoor.XOiR
open Go.RowKit Gong Go.Proofs.YtjcenencgnfffaaDoorW.PrintWords Go.Proofs.YtjcenencgnfffaaDoorW.PrintLast Go.Proofs.YtjcenencgnfffaaDoorW.PrintMore
attribute [local go_sem] max2_int min2_int max_two min_two max_three min_three max_four min_four   -- for this text's walks alone
set_option linter.unusedVariables false
set_option linter.unusedSimpArgs false

end Go.Proofs.YtjcenencgnfffaaDoor.XOiR
