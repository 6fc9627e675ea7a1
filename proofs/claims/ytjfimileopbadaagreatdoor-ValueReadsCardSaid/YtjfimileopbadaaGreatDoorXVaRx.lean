-- Laid by extprint.py (the session's own driver): functions told by the kit's printer and by hand.
import Derived.Test.YtjfimileopbadaaGreatDoorXVaRx0
import Derived.Test.YtjfimileopbadaaGreatDoorXVaRx1
import Derived.Test.YtjfimileopbadaaGreatDoorXVaRx2
import Derived.Test.YtjfimileopbadaaGreatDoorXVaRx3
import Derived.Test.YtjfimileopbadaaGreatDoorXVaRx4
import Derived.Test.YtjfimileopbadaaGreatDoorXVaRx5
import Derived.Test.YtjfimileopbadaaGreatDoorXVaRx6
import Derived.Test.YtjfimileopbadaaGreatDoorXVaRx7
import Derived.Test.YtjfimileopbadaaGreatDoorXVaRx8
import Derived.Test.YtjfimileopbadaaGreatDoorXVaRx9
import Derived.Test.YtjfimileopbadaaGreatDoorXVaRx10
import Derived.Test.YtjfimileopbadaaGreatDoorXVaRx11
import Derived.Test.YtjfimileopbadaaGreatDoorXVaRx12
import Derived.Test.YtjfimileopbadaaGreatDoorXVaRx13
import Derived.Test.YtjfimileopbadaaGreatDoorXVaRx14
import Derived.Test.YtjfimileopbadaaGreatDoorXVaRx15
namespace Go.Proofs.YtjfimileopbadaaGreatDoor.XVaR
open Go.RowKit Gong Go.Proofs.YtjfimileopbadaaGreatDoorW.PrintWords Go.Proofs.YtjfimileopbadaaGreatDoorW.PrintLast Go.Proofs.YtjfimileopbadaaGreatDoorW.PrintMore
attribute [local go_sem] max2_int min2_int max_two min_two max_three min_three max_four min_four   -- for this text's walks alone
set_option linter.unusedVariables false
set_option linter.unusedSimpArgs false

end Go.Proofs.YtjfimileopbadaaGreatDoor.XVaR
