/- Contracts of Go functions, each with the Lean function that says what it computes: begun by the print, turned by this session. No condition beyond what each theorem states. -/
import Derived.Test.YtlndcgmojabgbaaPFnFracOrderx0
import Derived.Test.YtlndcgmojabgbaaPFnFracOrderx1
import Derived.Test.YtlndcgmojabgbaaPFnFracOrderx2
import Derived.Test.YtlndcgmojabgbaaPFnFracOrderx3
import Derived.Test.YtlndcgmojabgbaaPFnFracOrderx4
import Derived.Test.YtlndcgmojabgbaaPFnFracOrderx5
import Derived.Test.YtlndcgmojabgbaaPFnFracOrderx6
import Derived.Test.YtlndcgmojabgbaaPFnFracOrderx7
import Derived.Test.YtlndcgmojabgbaaPFnFracOrderx8
import Derived.Test.YtlndcgmojabgbaaPFnFracOrderx9
import Derived.Test.YtlndcgmojabgbaaPFnFracOrderx10
import Derived.Test.YtlndcgmojabgbaaPFnFracOrderx11
import Derived.Test.YtlndcgmojabgbaaPFnFracOrderx12
import Derived.Test.YtlndcgmojabgbaaPFnFracOrderx13
namespace Go.Proofs.Ytlndcgmojabgbaa.PFnFracOrder
open Go.RowKit Go.Proofs.YtlndcgmojabgbaaVFnFracOrder.PrintWords Go.Proofs.YtlndcgmojabgbaaVFnFracOrder.PrintLast Go.Proofs.YtlndcgmojabgbaaVFnFracOrder.PrintMore
attribute [local go_sem] max2_int min2_int max_two min_two max_three min_three max_four min_four   -- for this text's walks alone
set_option linter.unusedVariables false
set_option linter.unusedSimpArgs false

end Go.Proofs.Ytlndcgmojabgbaa.PFnFracOrder
