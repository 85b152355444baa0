/- Contracts of Go functions, each with the Lean function that says what it computes: begun by the print, turned by this session. No condition beyond what each theorem states. -/
import Derived.Test.YtodbmgnhcglcnaaPFnExactAddFracx0
import Derived.Test.YtodbmgnhcglcnaaPFnExactAddFracx1
import Derived.Test.YtodbmgnhcglcnaaPFnExactAddFracx2
import Derived.Test.YtodbmgnhcglcnaaPFnExactAddFracx3
import Derived.Test.YtodbmgnhcglcnaaPFnExactAddFracx4
import Derived.Test.YtodbmgnhcglcnaaPFnExactAddFracx5
import Derived.Test.YtodbmgnhcglcnaaPFnExactAddFracx6
import Derived.Test.YtodbmgnhcglcnaaPFnExactAddFracx7
import Derived.Test.YtodbmgnhcglcnaaPFnExactAddFracx8
import Derived.Test.YtodbmgnhcglcnaaPFnExactAddFracx9
namespace Go.Proofs.Ytodbmgnhcglcnaa.PFnExactAddFrac
open Go.RowKit Go.Proofs.YtodbmgnhcglcnaaW.PrintWords Go.Proofs.YtodbmgnhcglcnaaW.PrintLast Go.Proofs.YtodbmgnhcglcnaaW.PrintMore
attribute [local go_sem] max2_int min2_int max_two min_two max_three min_three max_four min_four   -- for this text's walks alone
set_option linter.unusedVariables false
set_option linter.unusedSimpArgs false

end Go.Proofs.Ytodbmgnhcglcnaa.PFnExactAddFrac
