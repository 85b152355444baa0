/- Contracts of Go functions, each with the Lean function that says what it computes: begun by the print, turned by this session. No condition beyond what each theorem states. -/
import Derived.Test.YtcbiijfiecjcaaaDoorPFnExactCsvTextx0
import Derived.Test.YtcbiijfiecjcaaaDoorPFnExactCsvTextx1
import Derived.Test.YtcbiijfiecjcaaaDoorPFnExactCsvTextx2
import Derived.Test.YtcbiijfiecjcaaaDoorPFnExactCsvTextx3
import Derived.Test.YtcbiijfiecjcaaaDoorPFnExactCsvTextx4
namespace Go.Proofs.YtcbiijfiecjcaaaDoor.PFnExactCsvText
open Go.RowKit Go.Proofs.YtcbiijfiecjcaaaDoorW.PrintWords Go.Proofs.YtcbiijfiecjcaaaDoorW.PrintLast Go.Proofs.YtcbiijfiecjcaaaDoorW.PrintMore
attribute [local go_sem] max2_int min2_int max_two min_two max_three min_three max_four min_four   -- for this text's walks alone
set_option linter.unusedVariables false
set_option linter.unusedSimpArgs false

end Go.Proofs.YtcbiijfiecjcaaaDoor.PFnExactCsvText
