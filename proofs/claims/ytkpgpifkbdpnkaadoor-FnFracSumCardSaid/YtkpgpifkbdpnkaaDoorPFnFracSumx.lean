/- Contracts of Go functions, each with the Lean function that says what it computes: begun by the print, turned by this session. No condition beyond what each theorem states. -/
import Derived.Test.YtkpgpifkbdpnkaaDoorPFnFracSumx0
import Derived.Test.YtkpgpifkbdpnkaaDoorPFnFracSumx1
import Derived.Test.YtkpgpifkbdpnkaaDoorPFnFracSumx2
import Derived.Test.YtkpgpifkbdpnkaaDoorPFnFracSumx3
import Derived.Test.YtkpgpifkbdpnkaaDoorPFnFracSumx4
import Derived.Test.YtkpgpifkbdpnkaaDoorPFnFracSumx5
import Derived.Test.YtkpgpifkbdpnkaaDoorPFnFracSumx6
import Derived.Test.YtkpgpifkbdpnkaaDoorPFnFracSumx7
import Derived.Test.YtkpgpifkbdpnkaaDoorPFnFracSumx8
import Derived.Test.YtkpgpifkbdpnkaaDoorPFnFracSumx9
import Derived.Test.YtkpgpifkbdpnkaaDoorPFnFracSumx10
import Derived.Test.YtkpgpifkbdpnkaaDoorPFnFracSumx11
import Derived.Test.YtkpgpifkbdpnkaaDoorPFnFracSumx12
import Derived.Test.YtkpgpifkbdpnkaaDoorPFnFracSumx13
import Derived.Test.YtkpgpifkbdpnkaaDoorPFnFracSumx14
import Derived.Test.YtkpgpifkbdpnkaaDoorPFnFracSumx15
import Derived.Test.YtkpgpifkbdpnkaaDoorPFnFracSumx16
namespace Go.Proofs.YtkpgpifkbdpnkaaDoor.PFnFracSum
open Go.RowKit Go.Proofs.YtkpgpifkbdpnkaaDoorVFnFracSum.PrintWords Go.Proofs.YtkpgpifkbdpnkaaDoorVFnFracSum.PrintLast Go.Proofs.YtkpgpifkbdpnkaaDoorVFnFracSum.PrintMore
attribute [local go_sem] max2_int min2_int max_two min_two max_three min_three max_four min_four   -- for this text's walks alone
set_option linter.unusedVariables false
set_option linter.unusedSimpArgs false
end Go.Proofs.YtkpgpifkbdpnkaaDoor.PFnFracSum
