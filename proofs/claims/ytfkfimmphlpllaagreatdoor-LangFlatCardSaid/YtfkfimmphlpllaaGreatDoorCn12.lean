/- Helpers: an abstract machine for Go functions, and walks of functions of the program. -/
import Derived.Test.YtfkfimmphlpllaaGreatDoorCn11

set_option linter.all false

namespace Go.Am
open Go.Proofs
theorem Ho (m:Int):ah Tryz.prog (GG m) 17 [] (.c (.d (.bool true))):=ah.Eb (MP m 80) (by kernel_rfl)
end Go.Am
