-- Laid by extprint.py (the session's own driver): functions told by the kit's printer and by hand.
import Derived.Test.YtjcenencgnfffaaGreatDoorXOiWx0
import Derived.Test.YtjcenencgnfffaaGreatDoorXOiWx1
import Derived.Test.YtjcenencgnfffaaGreatDoorXOiWx2
import Derived.Test.YtjcenencgnfffaaGreatDoorXOiWx3
import Derived.Test.YtjcenencgnfffaaGreatDoorXOiWx4
import Derived.Test.YtjcenencgnfffaaGreatDoorXOiWx5
import Derived.Test.YtjcenencgnfffaaGreatDoorXOiWx6
namespace Go.Proofs.YtjcenencgnfffaaGreatDoor.XOiW
open Go.RowKit Gong Go.Proofs.YtjcenencgnfffaaGreatDoorW.PrintWords Go.Proofs.YtjcenencgnfffaaGreatDoorW.PrintLast Go.Proofs.YtjcenencgnfffaaGreatDoorW.PrintMore
attribute [local go_sem] max2_int min2_int max_two min_two max_three min_three max_four min_four   -- for this text's walks alone
set_option linter.unusedVariables false
set_option linter.unusedSimpArgs false

end Go.Proofs.YtjcenencgnfffaaGreatDoor.XOiW
