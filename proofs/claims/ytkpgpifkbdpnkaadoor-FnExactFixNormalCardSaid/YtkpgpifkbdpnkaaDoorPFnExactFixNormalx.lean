/- Contracts of Go functions, each with the Lean function that says what it computes: begun by the print, turned by this session. No condition beyond what each theorem states. -/
import Derived.Test.YtkpgpifkbdpnkaaDoorPFnExactFixNormalx0
import Derived.Test.YtkpgpifkbdpnkaaDoorPFnExactFixNormalx1
import Derived.Test.YtkpgpifkbdpnkaaDoorPFnExactFixNormalx2
import Derived.Test.YtkpgpifkbdpnkaaDoorPFnExactFixNormalx3
import Derived.Test.YtkpgpifkbdpnkaaDoorPFnExactFixNormalx4
import Derived.Test.YtkpgpifkbdpnkaaDoorPFnExactFixNormalx5
import Derived.Test.YtkpgpifkbdpnkaaDoorPFnExactFixNormalx6
namespace Go.Proofs.YtkpgpifkbdpnkaaDoor.PFnExactFixNormal
open Go.RowKit Go.Proofs.YtkpgpifkbdpnkaaDoorW.PrintWords Go.Proofs.YtkpgpifkbdpnkaaDoorW.PrintLast Go.Proofs.YtkpgpifkbdpnkaaDoorW.PrintMore
attribute [local go_sem] max2_int min2_int max_two min_two max_three min_three max_four min_four   -- for this text's walks alone
set_option linter.unusedVariables false
set_option linter.unusedSimpArgs false

end Go.Proofs.YtkpgpifkbdpnkaaDoor.PFnExactFixNormal
