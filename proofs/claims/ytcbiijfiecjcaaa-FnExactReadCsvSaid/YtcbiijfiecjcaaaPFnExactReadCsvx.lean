/- Contracts of Go functions, each with the Lean function that says what it computes: begun by the print, turned by this session. No condition beyond what each theorem states. -/
import Derived.Test.YtcbiijfiecjcaaaPFnExactReadCsvx0
import Derived.Test.YtcbiijfiecjcaaaPFnExactReadCsvx1
import Derived.Test.YtcbiijfiecjcaaaPFnExactReadCsvx2
import Derived.Test.YtcbiijfiecjcaaaPFnExactReadCsvx3
import Derived.Test.YtcbiijfiecjcaaaPFnExactReadCsvx4
import Derived.Test.YtcbiijfiecjcaaaPFnExactReadCsvx5
import Derived.Test.YtcbiijfiecjcaaaPFnExactReadCsvx6
import Derived.Test.YtcbiijfiecjcaaaPFnExactReadCsvx7
import Derived.Test.YtcbiijfiecjcaaaPFnExactReadCsvx8
namespace Go.Proofs.Ytcbiijfiecjcaaa.PFnExactReadCsv
open Go.RowKit Go.Proofs.YtcbiijfiecjcaaaW.PrintWords Go.Proofs.YtcbiijfiecjcaaaW.PrintLast Go.Proofs.YtcbiijfiecjcaaaW.PrintMore
attribute [local go_sem] max2_int min2_int max_two min_two max_three min_three max_four min_four   -- for this text's walks alone
set_option linter.unusedVariables false
set_option linter.unusedSimpArgs false

end Go.Proofs.Ytcbiijfiecjcaaa.PFnExactReadCsv
