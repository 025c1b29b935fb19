/- The functions that one law reaches, each as a Lean function, and that Go's call comes to what it says. Condition of each: that the Lean function answers (is not none). -/
import Derived.Test.YtbfmnhgpmpnglaaAx0
import Derived.Test.YtbfmnhgpmpnglaaAx1
import Derived.Test.YtbfmnhgpmpnglaaAx2
import Derived.Test.YtbfmnhgpmpnglaaAx3
import Derived.Test.YtbfmnhgpmpnglaaAx4
import Derived.Test.YtbfmnhgpmpnglaaAx5
import Derived.Test.YtbfmnhgpmpnglaaAx6
import Derived.Test.YtbfmnhgpmpnglaaAx7
import Derived.Test.YtbfmnhgpmpnglaaAx8
namespace Go.Proofs.Ytbfmnhgpmpnglaa.A
open Go.RowKit Go.Proofs.YtbfmnhgpmpnglaaW.PrintWords Go.Proofs.YtbfmnhgpmpnglaaW.PrintLast Go.Proofs.YtbfmnhgpmpnglaaW.PrintMore
attribute [local go_sem] max2_int min2_int max_two min_two max_three min_three max_four min_four   -- for this text's walks alone
set_option linter.unusedVariables false
set_option linter.unusedSimpArgs false

end Go.Proofs.Ytbfmnhgpmpnglaa.A
