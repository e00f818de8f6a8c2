/- Helpers: an abstract machine for Go functions, and walks of functions of the program. -/
import Derived.Test.YtlnhbjpphecakaaGreatDoorPn09

set_option linter.all false
set_option maxHeartbeats 8000000
set_option maxRecDepth 100000
namespace Go.Am
open Go.Proofs
theorem best0 (m:Int):(eB 1 1 2 1 0 1 2 1).At Tryz.prog (GG m) 116:=Ent.of_ev (evC_ok m 80) (by kernel_rfl) (by kernel_rfl)
theorem best1 (m:Int):(eB 1 1 3 2 0 1 3 4).At Tryz.prog (GG m) 116:=Ent.of_ev (evC_ok m 80) (by kernel_rfl) (by kernel_rfl)
theorem best2 (m:Int):(eB 3 2 2 1 3 4 2 1).At Tryz.prog (GG m) 116:=Ent.of_ev (evC_ok m 80) (by kernel_rfl) (by kernel_rfl)
end Go.Am
