/- The usual settings: program and reference give the same numbers and no signs, at every call. Conditions: each number is one of its kind, as the row says. -/
import Derived.Test.YtlndcgmojabgbaaPFnExactUsualConfigx
import Derived.Test.YtlndcgmojabgbaaBase
set_option linter.unusedSimpArgs false
set_option linter.unusedVariables false
namespace Go.Proofs.Ytlndcgmojabgbaa.Pure
open Go.RowKit Go.Proofs.Ytlndcgmojabgbaa.Base Go.Proofs.Ytlndcgmojabgbaa.PFnExactUsualConfig Go.Proofs.YtlndcgmojabgbaaW.PrintWords Go.Proofs.YtlndcgmojabgbaaW.PrintLast Go.Proofs.YtlndcgmojabgbaaW.PrintMore

theorem FnExactUsualConfig : laws_FnExactUsualConfig.Pure := ⟨1, rfl⟩

end Go.Proofs.Ytlndcgmojabgbaa.Pure
