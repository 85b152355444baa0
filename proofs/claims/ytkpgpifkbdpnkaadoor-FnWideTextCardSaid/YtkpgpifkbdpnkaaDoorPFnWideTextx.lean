/- Contracts of Go functions, each with the Lean function that says what it computes: begun by the print, turned by this session. No condition beyond what each theorem states. -/
import Derived.Test.YtkpgpifkbdpnkaaDoorPFnWideTextx0
import Derived.Test.YtkpgpifkbdpnkaaDoorPFnWideTextx1
import Derived.Test.YtkpgpifkbdpnkaaDoorPFnWideTextx2
import Derived.Test.YtkpgpifkbdpnkaaDoorPFnWideTextx3
import Derived.Test.YtkpgpifkbdpnkaaDoorPFnWideTextx4
import Derived.Test.YtkpgpifkbdpnkaaDoorPFnWideTextx5
import Derived.Test.YtkpgpifkbdpnkaaDoorPFnWideTextx6
import Derived.Test.YtkpgpifkbdpnkaaDoorPFnWideTextx7
import Derived.Test.YtkpgpifkbdpnkaaDoorPFnWideTextx8
import Derived.Test.YtkpgpifkbdpnkaaDoorPFnWideTextx9
import Derived.Test.YtkpgpifkbdpnkaaDoorPFnWideTextx10
import Derived.Test.YtkpgpifkbdpnkaaDoorPFnWideTextx11
import Derived.Test.YtkpgpifkbdpnkaaDoorPFnWideTextx12
import Derived.Test.YtkpgpifkbdpnkaaDoorPFnWideTextx13
import Derived.Test.YtkpgpifkbdpnkaaDoorPFnWideTextx14
namespace Go.Proofs.YtkpgpifkbdpnkaaDoor.PFnWideText
open Go.RowKit Go.Proofs.YtkpgpifkbdpnkaaDoorVFnWideText.PrintWords Go.Proofs.YtkpgpifkbdpnkaaDoorVFnWideText.PrintLast Go.Proofs.YtkpgpifkbdpnkaaDoorVFnWideText.PrintMore
attribute [local go_sem] max2_int min2_int max_two min_two max_three min_three max_four min_four   -- for this text's walks alone
set_option linter.unusedVariables false
set_option linter.unusedSimpArgs false

end Go.Proofs.YtkpgpifkbdpnkaaDoor.PFnWideText
