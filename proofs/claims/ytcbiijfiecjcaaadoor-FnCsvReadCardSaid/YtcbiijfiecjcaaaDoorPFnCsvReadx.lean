/- Contracts of Go functions, each with the Lean function that says what it computes: begun by the print, turned by this session. No condition beyond what each theorem states. -/
import Derived.Test.YtcbiijfiecjcaaaDoorPFnCsvReadx0
import Derived.Test.YtcbiijfiecjcaaaDoorPFnCsvReadx1
import Derived.Test.YtcbiijfiecjcaaaDoorPFnCsvReadx2
import Derived.Test.YtcbiijfiecjcaaaDoorPFnCsvReadx3
import Derived.Test.YtcbiijfiecjcaaaDoorPFnCsvReadx4
import Derived.Test.YtcbiijfiecjcaaaDoorPFnCsvReadx5
import Derived.Test.YtcbiijfiecjcaaaDoorPFnCsvReadx6
import Derived.Test.YtcbiijfiecjcaaaDoorPFnCsvReadx7
import Derived.Test.YtcbiijfiecjcaaaDoorPFnCsvReadx8
import Derived.Test.YtcbiijfiecjcaaaDoorPFnCsvReadx9
import Derived.Test.YtcbiijfiecjcaaaDoorPFnCsvReadx10
import Derived.Test.YtcbiijfiecjcaaaDoorPFnCsvReadx11
import Derived.Test.YtcbiijfiecjcaaaDoorPFnCsvReadx12
namespace Go.Proofs.YtcbiijfiecjcaaaDoor.PFnCsvRead
open Go.RowKit Go.Proofs.YtcbiijfiecjcaaaDoorVFnCsvRead.PrintWords Go.Proofs.YtcbiijfiecjcaaaDoorVFnCsvRead.PrintLast Go.Proofs.YtcbiijfiecjcaaaDoorVFnCsvRead.PrintMore
attribute [local go_sem] max2_int min2_int max_two min_two max_three min_three max_four min_four   -- for this text's walks alone
set_option linter.unusedVariables false
set_option linter.unusedSimpArgs false

end Go.Proofs.YtcbiijfiecjcaaaDoor.PFnCsvRead
