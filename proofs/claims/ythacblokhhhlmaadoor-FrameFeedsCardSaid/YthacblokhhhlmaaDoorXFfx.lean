-- Laid by extprint.py (the session's own driver): functions told by the kit's printer and by hand.
import Derived.Test.YthacblokhhhlmaaDoorXFfx0
import Derived.Test.YthacblokhhhlmaaDoorXFfx1
import Derived.Test.YthacblokhhhlmaaDoorXFfx2
import Derived.Test.YthacblokhhhlmaaDoorXFfx3
namespace Go.Proofs.YthacblokhhhlmaaDoor.XFf
open Go.RowKit Gong Go.Proofs.YthacblokhhhlmaaDoorW.PrintWords Go.Proofs.YthacblokhhhlmaaDoorW.PrintLast Go.Proofs.YthacblokhhhlmaaDoorW.PrintMore
attribute [local go_sem] max2_int min2_int max_two min_two max_three min_three max_four min_four   -- for this text's walks alone
set_option linter.unusedVariables false
set_option linter.unusedSimpArgs false

end Go.Proofs.YthacblokhhhlmaaDoor.XFf
