-- Laid by extprint.py (the session's own driver): functions told by the kit's printer and by hand.
import Derived.Test.YtjfimileopbadaaGreatDoorXVaAx0
import Derived.Test.YtjfimileopbadaaGreatDoorXVaAx1
import Derived.Test.YtjfimileopbadaaGreatDoorXVaAx2
import Derived.Test.YtjfimileopbadaaGreatDoorXVaAx3
import Derived.Test.YtjfimileopbadaaGreatDoorXVaAx4
import Derived.Test.YtjfimileopbadaaGreatDoorXVaAx5
import Derived.Test.YtjfimileopbadaaGreatDoorXVaAx6
import Derived.Test.YtjfimileopbadaaGreatDoorXVaAx7
import Derived.Test.YtjfimileopbadaaGreatDoorXVaAx8
import Derived.Test.YtjfimileopbadaaGreatDoorXVaAx9
import Derived.Test.YtjfimileopbadaaGreatDoorXVaAx10
import Derived.Test.YtjfimileopbadaaGreatDoorXVaAx11
import Derived.Test.YtjfimileopbadaaGreatDoorXVaAx12
import Derived.Test.YtjfimileopbadaaGreatDoorXVaAx13
import Derived.Test.YtjfimileopbadaaGreatDoorXVaAx14
import Derived.Test.YtjfimileopbadaaGreatDoorXVaAx15
import Derived.Test.YtjfimileopbadaaGreatDoorXVaAx16
import Derived.Test.YtjfimileopbadaaGreatDoorXVaAx17
import Derived.Test.YtjfimileopbadaaGreatDoorXVaAx18
namespace Go.Proofs.YtjfimileopbadaaGreatDoor.XVaA
open Go.RowKit Gong Go.Proofs.YtjfimileopbadaaGreatDoorW.PrintWords Go.Proofs.YtjfimileopbadaaGreatDoorW.PrintLast Go.Proofs.YtjfimileopbadaaGreatDoorW.PrintMore
attribute [local go_sem] max2_int min2_int max_two min_two max_three min_three max_four min_four   -- for this text's walks alone
set_option linter.unusedVariables false
set_option linter.unusedSimpArgs false

end Go.Proofs.YtjfimileopbadaaGreatDoor.XVaA
