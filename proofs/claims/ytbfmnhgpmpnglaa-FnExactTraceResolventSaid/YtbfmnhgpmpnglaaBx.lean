/- The functions that one law reaches, each as a Lean function, and that Go's call comes to what it says. Condition of each: that the Lean function answers (is not none). -/
import Derived.Test.YtbfmnhgpmpnglaaBx0
import Derived.Test.YtbfmnhgpmpnglaaBx1
import Derived.Test.YtbfmnhgpmpnglaaBx2
import Derived.Test.YtbfmnhgpmpnglaaBx3
import Derived.Test.YtbfmnhgpmpnglaaBx4
import Derived.Test.YtbfmnhgpmpnglaaBx5
import Derived.Test.YtbfmnhgpmpnglaaBx6
import Derived.Test.YtbfmnhgpmpnglaaBx7
import Derived.Test.YtbfmnhgpmpnglaaBx8
import Derived.Test.YtbfmnhgpmpnglaaBx9
namespace Go.Proofs.Ytbfmnhgpmpnglaa.B
open Go.RowKit Go.Proofs.YtbfmnhgpmpnglaaW.PrintWords Go.Proofs.YtbfmnhgpmpnglaaW.PrintLast Go.Proofs.YtbfmnhgpmpnglaaW.PrintMore
attribute [local go_sem] max2_int min2_int max_two min_two max_three min_three max_four min_four   -- for this text's walks alone
set_option linter.unusedVariables false
set_option linter.unusedSimpArgs false

end Go.Proofs.Ytbfmnhgpmpnglaa.B
