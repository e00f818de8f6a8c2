/- Helpers. -/
import Derived.Test.YticmbkclbnjnaaaGreatDoorJn11

set_option linter.all false
set_option maxHeartbeats 8000000
set_option maxRecDepth 100000
namespace Go.Am
open Go.Proofs
def OH(m:Int):aa Tryz.prog (GG m) 5 [] (.c (.d (.bool true))):=aa.F4 (T8 m 80) (by kernel_rfl)
end Go.Am
