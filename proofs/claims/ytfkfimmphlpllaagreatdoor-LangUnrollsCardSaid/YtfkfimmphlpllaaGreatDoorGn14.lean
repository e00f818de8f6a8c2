/- Helpers. -/
import Derived.Test.YtfkfimmphlpllaaGreatDoorGn13

set_option linter.all false
set_option maxHeartbeats 8000000
set_option maxRecDepth 100000
namespace Go.Am
open Go.Proofs
def MU(m:Int):aa Tryz.prog (GG m) 17 [] (.c (.d (.bool true))):=aa.Fi (Rr m 80) (by kernel_rfl)
end Go.Am
