/- Helpers: an abstract machine for Go functions, and walks of functions of the program. -/
import Derived.Test.YtfkfimmphlpllaaGreatDoorHn11

set_option linter.all false
set_option maxHeartbeats 8000000
set_option maxRecDepth 100000
namespace Go.Am
open Go.Proofs
theorem Mp (m:Int):aa Tryz.prog (GG m) 17 [] (.c (.d (.bool true))):=aa.G1 (QU m 80) (by kernel_rfl)
end Go.Am
