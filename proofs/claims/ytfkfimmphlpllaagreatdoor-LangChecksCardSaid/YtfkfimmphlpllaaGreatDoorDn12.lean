/- Helpers: an abstract machine for Go functions, and walks of functions of the program. -/
import Derived.Test.YtfkfimmphlpllaaGreatDoorDn11

set_option linter.all false

namespace Go.Am
open Go.Proofs
theorem Hh (m:Int):aj Tryz.prog (GG m) 17 [] (.c (.d (.bool true))):=aj.Cg (NL m 80) (by kernel_rfl)
end Go.Am
