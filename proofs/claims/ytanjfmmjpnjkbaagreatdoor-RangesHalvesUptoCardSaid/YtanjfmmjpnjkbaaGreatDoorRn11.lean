/- Helpers: an abstract machine for Go functions, and walks of functions of the program. -/
import Derived.Test.YtanjfmmjpnjkbaaGreatDoorRn10

set_option linter.all false
set_option maxHeartbeats 8000000
set_option maxRecDepth 100000
namespace Go.Am
open Go.Proofs
theorem awake_ok (m:Int):CallsP Tryz.prog (GG m) 7 [] (.c (.d (.bool true))):=CallsP.of_ev (evY_ok m 80) (by kernel_rfl)
end Go.Am
