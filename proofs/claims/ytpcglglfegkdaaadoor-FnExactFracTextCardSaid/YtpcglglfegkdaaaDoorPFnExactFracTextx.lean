/- Contracts of Go functions, each with the Lean function that says what it computes: begun by the print, turned by this session. No condition beyond what each theorem states. -/
import Derived.Test.YtpcglglfegkdaaaDoorPFnExactFracTextx0
import Derived.Test.YtpcglglfegkdaaaDoorPFnExactFracTextx1
import Derived.Test.YtpcglglfegkdaaaDoorPFnExactFracTextx2
import Derived.Test.YtpcglglfegkdaaaDoorPFnExactFracTextx3
import Derived.Test.YtpcglglfegkdaaaDoorPFnExactFracTextx4
namespace Go.Proofs.YtpcglglfegkdaaaDoor.PFnExactFracText
open Go.RowKit Go.Proofs.YtpcglglfegkdaaaDoorW.PrintWords Go.Proofs.YtpcglglfegkdaaaDoorW.PrintLast Go.Proofs.YtpcglglfegkdaaaDoorW.PrintMore
attribute [local go_sem] max2_int min2_int max_two min_two max_three min_three max_four min_four   -- for this text's walks alone
set_option linter.unusedVariables false
set_option linter.unusedSimpArgs false

end Go.Proofs.YtpcglglfegkdaaaDoor.PFnExactFracText
