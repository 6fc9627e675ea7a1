-- Laid by extprint.py (the session's own driver): functions told by the kit's printer and by hand.
import Derived.Test.YtjfimileopbadaaGreatDoorXPdFx0
import Derived.Test.YtjfimileopbadaaGreatDoorXPdFx1
import Derived.Test.YtjfimileopbadaaGreatDoorXPdFx2
import Derived.Test.YtjfimileopbadaaGreatDoorXPdFx3
import Derived.Test.YtjfimileopbadaaGreatDoorXPdFx4
import Derived.Test.YtjfimileopbadaaGreatDoorXPdFx5
import Derived.Test.YtjfimileopbadaaGreatDoorXPdFx6
import Derived.Test.YtjfimileopbadaaGreatDoorXPdFx7
import Derived.Test.YtjfimileopbadaaGreatDoorXPdFx8
import Derived.Test.YtjfimileopbadaaGreatDoorXPdFx9
import Derived.Test.YtjfimileopbadaaGreatDoorXPdFx10
namespace Go.Proofs.YtjfimileopbadaaGreatDoor.XPdF
open Go.RowKit Gong Go.Proofs.YtjfimileopbadaaGreatDoorW.PrintWords Go.Proofs.YtjfimileopbadaaGreatDoorW.PrintLast Go.Proofs.YtjfimileopbadaaGreatDoorW.PrintMore
attribute [local go_sem] max2_int min2_int max_two min_two max_three min_three max_four min_four   -- for this text's walks alone
set_option linter.unusedVariables false
set_option linter.unusedSimpArgs false

end Go.Proofs.YtjfimileopbadaaGreatDoor.XPdF
