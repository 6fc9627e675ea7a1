/- Bytes as digits; what is shown of bytes: plain lists. -/
import Derived.Test.YtfmhghlmljlfgaaGreatDoorGPre
namespace Gong
open Go Go.RowKit
end Gong
