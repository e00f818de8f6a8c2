/- Helpers: an abstract machine for Go functions, and walks of functions of the program. -/
import Derived.Test.YtlnhbjpphecakaaGreatDoorPn10

set_option linter.all false
set_option maxHeartbeats 8000000
set_option maxRecDepth 100000
namespace Go.Am
open Go.Proofs
theorem best3 (m:Int):(eB 3 2 7 4 3 4 21 16).At Tryz.prog (GG m) 116:=Ent.of_ev (evC_ok m 80) (by kernel_rfl) (by kernel_rfl)
theorem best4 (m:Int):(eB 7 4 2 1 21 16 2 1).At Tryz.prog (GG m) 116:=Ent.of_ev (evC_ok m 80) (by kernel_rfl) (by kernel_rfl)
theorem best5 (m:Int):(eB 1 1 5 4 0 1 5 16).At Tryz.prog (GG m) 116:=Ent.of_ev (evC_ok m 80) (by kernel_rfl) (by kernel_rfl)
theorem best6 (m:Int):(eB 5 4 3 2 5 16 3 4).At Tryz.prog (GG m) 116:=Ent.of_ev (evC_ok m 80) (by kernel_rfl) (by kernel_rfl)
end Go.Am
