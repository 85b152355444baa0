/- Contracts of Go functions, each with the Lean function that says what it computes: begun by the print, turned by this session. No condition beyond what each theorem states. -/
import Derived.Test.YtcbiijfiecjcaaaDoorPFnExactConfigTextx0
import Derived.Test.YtcbiijfiecjcaaaDoorPFnExactConfigTextx1
import Derived.Test.YtcbiijfiecjcaaaDoorPFnExactConfigTextx2
import Derived.Test.YtcbiijfiecjcaaaDoorPFnExactConfigTextx3
import Derived.Test.YtcbiijfiecjcaaaDoorPFnExactConfigTextx4
import Derived.Test.YtcbiijfiecjcaaaDoorPFnExactConfigTextx5
import Derived.Test.YtcbiijfiecjcaaaDoorPFnExactConfigTextx6
import Derived.Test.YtcbiijfiecjcaaaDoorPFnExactConfigTextx7
namespace Go.Proofs.YtcbiijfiecjcaaaDoor.PFnExactConfigText
open Go.RowKit Go.Proofs.YtcbiijfiecjcaaaDoorW.PrintWords Go.Proofs.YtcbiijfiecjcaaaDoorW.PrintLast Go.Proofs.YtcbiijfiecjcaaaDoorW.PrintMore
attribute [local go_sem] max2_int min2_int max_two min_two max_three min_three max_four min_four   -- for this text's walks alone
set_option linter.unusedVariables false
set_option linter.unusedSimpArgs false

end Go.Proofs.YtcbiijfiecjcaaaDoor.PFnExactConfigText
