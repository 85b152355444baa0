/- Contracts of Go functions, each with the Lean function that says what it computes: begun by the print, turned by this session. No condition beyond what each theorem states. -/
import Derived.Test.YtkpgpifkbdpnkaaDoorPFnWideSmallx0
import Derived.Test.YtkpgpifkbdpnkaaDoorPFnWideSmallx1
import Derived.Test.YtkpgpifkbdpnkaaDoorPFnWideSmallx2
import Derived.Test.YtkpgpifkbdpnkaaDoorPFnWideSmallx3
import Derived.Test.YtkpgpifkbdpnkaaDoorPFnWideSmallx4
import Derived.Test.YtkpgpifkbdpnkaaDoorPFnWideSmallx5
import Derived.Test.YtkpgpifkbdpnkaaDoorPFnWideSmallx6
import Derived.Test.YtkpgpifkbdpnkaaDoorPFnWideSmallx7
import Derived.Test.YtkpgpifkbdpnkaaDoorPFnWideSmallx8
import Derived.Test.YtkpgpifkbdpnkaaDoorPFnWideSmallx9
import Derived.Test.YtkpgpifkbdpnkaaDoorPFnWideSmallx10
import Derived.Test.YtkpgpifkbdpnkaaDoorPFnWideSmallx11
import Derived.Test.YtkpgpifkbdpnkaaDoorPFnWideSmallx12
namespace Go.Proofs.YtkpgpifkbdpnkaaDoor.PFnWideSmall
open Go.RowKit Go.Proofs.YtkpgpifkbdpnkaaDoorVFnWideSmall.PrintWords Go.Proofs.YtkpgpifkbdpnkaaDoorVFnWideSmall.PrintLast Go.Proofs.YtkpgpifkbdpnkaaDoorVFnWideSmall.PrintMore
attribute [local go_sem] max2_int min2_int max_two min_two max_three min_three max_four min_four   -- for this text's walks alone
set_option linter.unusedVariables false
set_option linter.unusedSimpArgs false

end Go.Proofs.YtkpgpifkbdpnkaaDoor.PFnWideSmall
