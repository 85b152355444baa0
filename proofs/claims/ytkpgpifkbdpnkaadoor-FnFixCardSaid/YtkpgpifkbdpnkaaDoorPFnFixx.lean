/- Contracts of Go functions, each with the Lean function that says what it computes: begun by the print, turned by this session. No condition beyond what each theorem states. -/
import Derived.Test.YtkpgpifkbdpnkaaDoorPFnFixx0
import Derived.Test.YtkpgpifkbdpnkaaDoorPFnFixx1
import Derived.Test.YtkpgpifkbdpnkaaDoorPFnFixx2
import Derived.Test.YtkpgpifkbdpnkaaDoorPFnFixx3
import Derived.Test.YtkpgpifkbdpnkaaDoorPFnFixx4
import Derived.Test.YtkpgpifkbdpnkaaDoorPFnFixx5
import Derived.Test.YtkpgpifkbdpnkaaDoorPFnFixx6
import Derived.Test.YtkpgpifkbdpnkaaDoorPFnFixx7
namespace Go.Proofs.YtkpgpifkbdpnkaaDoor.PFnFix
open Go.RowKit Go.Proofs.YtkpgpifkbdpnkaaDoorW.PrintWords Go.Proofs.YtkpgpifkbdpnkaaDoorW.PrintLast Go.Proofs.YtkpgpifkbdpnkaaDoorW.PrintMore
attribute [local go_sem] max2_int min2_int max_two min_two max_three min_three max_four min_four   -- for this text's walks alone
set_option linter.unusedVariables false
set_option linter.unusedSimpArgs false

end Go.Proofs.YtkpgpifkbdpnkaaDoor.PFnFix
