/- Contracts of Go functions, each with the Lean function that says what it computes: begun by the print, turned by this session. No condition beyond what each theorem states. -/
import Derived.Test.YtlndcgmojabgbaaPFnExactSignForx0
import Derived.Test.YtlndcgmojabgbaaPFnExactSignForx1
import Derived.Test.YtlndcgmojabgbaaPFnExactSignForx2
namespace Go.Proofs.Ytlndcgmojabgbaa.PFnExactSignFor
open Go.RowKit Go.Proofs.YtlndcgmojabgbaaW.PrintWords Go.Proofs.YtlndcgmojabgbaaW.PrintLast Go.Proofs.YtlndcgmojabgbaaW.PrintMore
attribute [local go_sem] max2_int min2_int max_two min_two max_three min_three max_four min_four   -- for this text's walks alone
set_option linter.unusedVariables false
set_option linter.unusedSimpArgs false

end Go.Proofs.Ytlndcgmojabgbaa.PFnExactSignFor
