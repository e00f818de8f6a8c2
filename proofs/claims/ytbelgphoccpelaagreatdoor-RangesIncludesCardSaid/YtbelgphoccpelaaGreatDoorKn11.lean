/- Helpers: an abstract machine for Go functions, and walks of functions of the program. -/
import Derived.Test.YtbelgphoccpelaaGreatDoorKn10

set_option linter.all false
set_option maxHeartbeats 8000000
set_option maxRecDepth 100000
namespace Go.Am
open Go.Proofs

theorem awake_ok (m : Int) : CallsP Tryz.prog (GG m) 5 [] (.c (.d (.bool true))) := CallsP.of_ev (evY_ok m 80) (by kernel_rfl)
theorem rangesIncludes_ok (m : Int) (al ah bl bh : List UInt8) (bits : Int) (X s : List UInt8) :
    CallsP Tryz.prog (GG m) 3 [pairA al ah bl bh bits X, .c (.d (.str s))] (.c (.d (.bool true))) := includes_ok' m (awake_ok m) al ah bl bh bits X s
end Go.Am
