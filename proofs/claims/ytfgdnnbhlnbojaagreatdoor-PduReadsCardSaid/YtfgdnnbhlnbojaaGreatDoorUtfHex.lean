/- Bytes as digits; what is shown of bytes: plain lists. -/
import Derived.Test.YtfgdnnbhlnbojaaGreatDoorGPre
namespace Gong
open Go Go.RowKit
end Gong
