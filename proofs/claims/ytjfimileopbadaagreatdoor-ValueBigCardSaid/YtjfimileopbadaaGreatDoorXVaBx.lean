-- Laid by extprint.py (the session's own driver): functions told by the kit's printer and by hand.
import Derived.Test.YtjfimileopbadaaGreatDoorXVaBx0
import Derived.Test.YtjfimileopbadaaGreatDoorXVaBx1
import Derived.Test.YtjfimileopbadaaGreatDoorXVaBx2
import Derived.Test.YtjfimileopbadaaGreatDoorXVaBx3
import Derived.Test.YtjfimileopbadaaGreatDoorXVaBx4
import Derived.Test.YtjfimileopbadaaGreatDoorXVaBx5
import Derived.Test.YtjfimileopbadaaGreatDoorXVaBx6
import Derived.Test.YtjfimileopbadaaGreatDoorXVaBx7
import Derived.Test.YtjfimileopbadaaGreatDoorXVaBx8
import Derived.Test.YtjfimileopbadaaGreatDoorXVaBx9
import Derived.Test.YtjfimileopbadaaGreatDoorXVaBx10
import Derived.Test.YtjfimileopbadaaGreatDoorXVaBx11
import Derived.Test.YtjfimileopbadaaGreatDoorXVaBx12
import Derived.Test.YtjfimileopbadaaGreatDoorXVaBx13
import Derived.Test.YtjfimileopbadaaGreatDoorXVaBx14
namespace Go.Proofs.YtjfimileopbadaaGreatDoor.XVaB
open Go.RowKit Gong Go.Proofs.YtjfimileopbadaaGreatDoorW.PrintWords Go.Proofs.YtjfimileopbadaaGreatDoorW.PrintLast Go.Proofs.YtjfimileopbadaaGreatDoorW.PrintMore
attribute [local go_sem] max2_int min2_int max_two min_two max_three min_three max_four min_four   -- for this text's walks alone
set_option linter.unusedVariables false
set_option linter.unusedSimpArgs false

end Go.Proofs.YtjfimileopbadaaGreatDoor.XVaB
