/- Contracts of Go functions, each with the Lean function that says what it computes: begun by the print, turned by this session. No condition beyond what each theorem states. -/
import Derived.Test.YtcbiijfiecjcaaaDoorPFnCsvx0
import Derived.Test.YtcbiijfiecjcaaaDoorPFnCsvx1
import Derived.Test.YtcbiijfiecjcaaaDoorPFnCsvx2
import Derived.Test.YtcbiijfiecjcaaaDoorPFnCsvx3
import Derived.Test.YtcbiijfiecjcaaaDoorPFnCsvx4
import Derived.Test.YtcbiijfiecjcaaaDoorPFnCsvx5
import Derived.Test.YtcbiijfiecjcaaaDoorPFnCsvx6
import Derived.Test.YtcbiijfiecjcaaaDoorPFnCsvx7
import Derived.Test.YtcbiijfiecjcaaaDoorPFnCsvx8
namespace Go.Proofs.YtcbiijfiecjcaaaDoor.PFnCsv
open Go.RowKit Go.Proofs.YtcbiijfiecjcaaaDoorW.PrintWords Go.Proofs.YtcbiijfiecjcaaaDoorW.PrintLast Go.Proofs.YtcbiijfiecjcaaaDoorW.PrintMore
attribute [local go_sem] max2_int min2_int max_two min_two max_three min_three max_four min_four   -- for this text's walks alone
set_option linter.unusedVariables false
set_option linter.unusedSimpArgs false

end Go.Proofs.YtcbiijfiecjcaaaDoor.PFnCsv
