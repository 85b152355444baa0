/- Contracts of Go functions, each with the Lean function that says what it computes: begun by the print, turned by this session. No condition beyond what each theorem states. -/
import Derived.Test.YtpcglglfegkdaaaDoorPFnExactReadWidex0
import Derived.Test.YtpcglglfegkdaaaDoorPFnExactReadWidex1
import Derived.Test.YtpcglglfegkdaaaDoorPFnExactReadWidex2
import Derived.Test.YtpcglglfegkdaaaDoorPFnExactReadWidex3
import Derived.Test.YtpcglglfegkdaaaDoorPFnExactReadWidex4
import Derived.Test.YtpcglglfegkdaaaDoorPFnExactReadWidex5
import Derived.Test.YtpcglglfegkdaaaDoorPFnExactReadWidex6
import Derived.Test.YtpcglglfegkdaaaDoorPFnExactReadWidex7
import Derived.Test.YtpcglglfegkdaaaDoorPFnExactReadWidex8
import Derived.Test.YtpcglglfegkdaaaDoorPFnExactReadWidex9
import Derived.Test.YtpcglglfegkdaaaDoorPFnExactReadWidex10
import Derived.Test.YtpcglglfegkdaaaDoorPFnExactReadWidex11
namespace Go.Proofs.YtpcglglfegkdaaaDoor.PFnExactReadWide
open Go.RowKit Go.Proofs.YtpcglglfegkdaaaDoorVFnExactReadWide.PrintWords Go.Proofs.YtpcglglfegkdaaaDoorVFnExactReadWide.PrintLast Go.Proofs.YtpcglglfegkdaaaDoorVFnExactReadWide.PrintMore
attribute [local go_sem] max2_int min2_int max_two min_two max_three min_three max_four min_four   -- for this text's walks alone
set_option linter.unusedVariables false
set_option linter.unusedSimpArgs false

end Go.Proofs.YtpcglglfegkdaaaDoor.PFnExactReadWide
