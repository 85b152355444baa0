/- Contracts of Go functions, each with the Lean function that says what it computes: begun by the print, turned by this session. No condition beyond what each theorem states. -/
import Derived.Test.YtodbmgnhcglcnaaPFnFloorx0
import Derived.Test.YtodbmgnhcglcnaaPFnFloorx1
import Derived.Test.YtodbmgnhcglcnaaPFnFloorx2
import Derived.Test.YtodbmgnhcglcnaaPFnFloorx3
import Derived.Test.YtodbmgnhcglcnaaPFnFloorx4
import Derived.Test.YtodbmgnhcglcnaaPFnFloorx5
import Derived.Test.YtodbmgnhcglcnaaPFnFloorx6
namespace Go.Proofs.Ytodbmgnhcglcnaa.PFnFloor
open Go.RowKit Go.Proofs.YtodbmgnhcglcnaaW.PrintWords Go.Proofs.YtodbmgnhcglcnaaW.PrintLast Go.Proofs.YtodbmgnhcglcnaaW.PrintMore
attribute [local go_sem] max2_int min2_int max_two min_two max_three min_three max_four min_four   -- for this text's walks alone
set_option linter.unusedVariables false
set_option linter.unusedSimpArgs false

end Go.Proofs.Ytodbmgnhcglcnaa.PFnFloor
