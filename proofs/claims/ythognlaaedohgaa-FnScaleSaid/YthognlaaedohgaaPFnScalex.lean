/- Contracts of Go functions, each with the Lean function that says what it computes: begun by the print, turned by this session. No condition beyond what each theorem states. -/
import Derived.Test.YthognlaaedohgaaPFnScalex0
import Derived.Test.YthognlaaedohgaaPFnScalex1
import Derived.Test.YthognlaaedohgaaPFnScalex2
import Derived.Test.YthognlaaedohgaaPFnScalex3
import Derived.Test.YthognlaaedohgaaPFnScalex4
import Derived.Test.YthognlaaedohgaaPFnScalex5
import Derived.Test.YthognlaaedohgaaPFnScalex6
namespace Go.Proofs.Ythognlaaedohgaa.PFnScale
open Go.RowKit Go.Proofs.YthognlaaedohgaaW.PrintWords Go.Proofs.YthognlaaedohgaaW.PrintLast Go.Proofs.YthognlaaedohgaaW.PrintMore
attribute [local go_sem] max2_int min2_int max_two min_two max_three min_three max_four min_four   -- for this text's walks alone
set_option linter.unusedVariables false
set_option linter.unusedSimpArgs false

end Go.Proofs.Ythognlaaedohgaa.PFnScale
