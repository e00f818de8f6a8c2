/- Helpers: an abstract machine for Go functions, and walks of functions of the program. -/
import Derived.Test.YtlnhbjpphecakaaGreatDoorPn11

set_option linter.all false
set_option maxHeartbeats 8000000
set_option maxRecDepth 100000
namespace Go.Am
open Go.Proofs
def eNode:Ent:=eN [nI 1] (.tup [iy 1 1 4 1,nI 0])
def eAff:Ent:=eN [nI 2] (.tup [.agg ((qA 3 4).map .d),.c (.d (.sl [qA 1 1])),.agg ((qA 1 4).map .d),nI 0])
def eSlope:Ent:=eN [nI 2,nI 0] (.tup [iy 1 1 3 1,nI 0])
def eMono:Ent:=eN [nI 2] (.tup [iy 0 1 2 1,nI 0])
theorem node_e (m:Int):eNode.At Tryz.prog (GG m) 48:=Ent.of_ev (evC_ok m 80) (by kernel_rfl) (by kernel_rfl)
theorem aff_e (m:Int):eAff.At Tryz.prog (GG m) 49:=Ent.of_ev (evC_ok m 80) (by kernel_rfl) (by kernel_rfl)
theorem slope_e (m:Int):eSlope.At Tryz.prog (GG m) 50:=Ent.of_ev (evC_ok m 80) (by kernel_rfl) (by kernel_rfl)
theorem mono_e (m:Int):eMono.At Tryz.prog (GG m) 51:=Ent.of_ev (evC_ok m 80) (by kernel_rfl) (by kernel_rfl)
theorem exam_x (m:Int):CallsP Tryz.prog (GG m) 47 [] pX:=CallsP.of_ev (evC_ok m 80) (by kernel_rfl)
end Go.Am
