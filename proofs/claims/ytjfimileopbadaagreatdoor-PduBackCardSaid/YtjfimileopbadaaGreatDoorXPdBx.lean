-- Laid by extprint.py (the session's own driver): functions told by the kit's printer and by hand.
import Derived.Test.YtjfimileopbadaaGreatDoorXPdBx0
import Derived.Test.YtjfimileopbadaaGreatDoorXPdBx1
import Derived.Test.YtjfimileopbadaaGreatDoorXPdBx2
import Derived.Test.YtjfimileopbadaaGreatDoorXPdBx3
import Derived.Test.YtjfimileopbadaaGreatDoorXPdBx4
import Derived.Test.YtjfimileopbadaaGreatDoorXPdBx5
import Derived.Test.YtjfimileopbadaaGreatDoorXPdBx6
import Derived.Test.YtjfimileopbadaaGreatDoorXPdBx7
import Derived.Test.YtjfimileopbadaaGreatDoorXPdBx8
import Derived.Test.YtjfimileopbadaaGreatDoorXPdBx9
import Derived.Test.YtjfimileopbadaaGreatDoorXPdBx10
import Derived.Test.YtjfimileopbadaaGreatDoorXPdBx11
import Derived.Test.YtjfimileopbadaaGreatDoorXPdBx12
import Derived.Test.YtjfimileopbadaaGreatDoorXPdBx13
import Derived.Test.YtjfimileopbadaaGreatDoorXPdBx14
import Derived.Test.YtjfimileopbadaaGreatDoorXPdBx15
namespace Go.Proofs.YtjfimileopbadaaGreatDoor.XPdB
open Go.RowKit Gong Go.Proofs.YtjfimileopbadaaGreatDoorW.PrintWords Go.Proofs.YtjfimileopbadaaGreatDoorW.PrintLast Go.Proofs.YtjfimileopbadaaGreatDoorW.PrintMore
attribute [local go_sem] max2_int min2_int max_two min_two max_three min_three max_four min_four   -- for this text's walks alone
set_option linter.unusedVariables false
set_option linter.unusedSimpArgs false

end Go.Proofs.YtjfimileopbadaaGreatDoor.XPdB
