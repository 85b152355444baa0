/- Contracts of Go functions, each with the Lean function that says what it computes: begun by the print, turned by this session. No condition beyond what each theorem states. -/
import Derived.Test.YtcbiijfiecjcaaaPFnExactConfigOkx0
import Derived.Test.YtcbiijfiecjcaaaPFnExactConfigOkx1
import Derived.Test.YtcbiijfiecjcaaaPFnExactConfigOkx2
import Derived.Test.YtcbiijfiecjcaaaPFnExactConfigOkx3
import Derived.Test.YtcbiijfiecjcaaaPFnExactConfigOkx4
namespace Go.Proofs.Ytcbiijfiecjcaaa.PFnExactConfigOk
open Go.RowKit Go.Proofs.YtcbiijfiecjcaaaW.PrintWords Go.Proofs.YtcbiijfiecjcaaaW.PrintLast Go.Proofs.YtcbiijfiecjcaaaW.PrintMore
attribute [local go_sem] max2_int min2_int max_two min_two max_three min_three max_four min_four   -- for this text's walks alone
set_option linter.unusedVariables false
set_option linter.unusedSimpArgs false

end Go.Proofs.Ytcbiijfiecjcaaa.PFnExactConfigOk
