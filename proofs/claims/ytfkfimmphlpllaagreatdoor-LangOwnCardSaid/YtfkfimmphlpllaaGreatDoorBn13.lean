/- Helpers: an abstract machine for Go functions, and walks of functions of the program. -/
import Derived.Test.YtfkfimmphlpllaaGreatDoorBn12

set_option linter.all false

namespace Go.Am
open Go.Proofs
theorem shown_ok (m:Int):CallsP Tryz.prog (GG m) 17 [] (.c (.d (.bool true))):=CallsP.of_ev (evB_ok m 80) (by kernel_rfl)
end Go.Am
