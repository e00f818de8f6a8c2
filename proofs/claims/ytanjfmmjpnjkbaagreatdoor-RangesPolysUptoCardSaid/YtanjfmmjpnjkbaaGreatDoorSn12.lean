/- Helpers: an abstract machine for Go functions, and walks of functions of the program. -/
import Derived.Test.YtanjfmmjpnjkbaaGreatDoorSn11

set_option linter.all false
set_option maxHeartbeats 8000000
set_option maxRecDepth 100000
namespace Go.Am
open Go.Proofs
theorem ML(m:Int):aa Tryz.prog (GG m) 7 [] (.c (.d (.bool true))):=aa.gM (Ve m 80) (by kernel_rfl)
end Go.Am
