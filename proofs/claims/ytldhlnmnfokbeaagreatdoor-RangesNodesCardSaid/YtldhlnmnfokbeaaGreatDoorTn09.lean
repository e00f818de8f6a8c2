/- Helpers. -/
import Derived.Test.YtldhlnmnfokbeaaGreatDoorTn08

set_option linter.all false
set_option maxHeartbeats 8000000
set_option maxRecDepth 100000
namespace Go.Am
open Go.Proofs
end Go.Am
