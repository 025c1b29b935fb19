/- The functions that one law reaches, each as a Lean function, and that Go's call comes to what it says. Condition of each: that the Lean function answers (is not none). -/
import Derived.Test.YtbfmnhgpmpnglaaCx0
import Derived.Test.YtbfmnhgpmpnglaaCx1
import Derived.Test.YtbfmnhgpmpnglaaCx2
import Derived.Test.YtbfmnhgpmpnglaaCx3
import Derived.Test.YtbfmnhgpmpnglaaCx4
import Derived.Test.YtbfmnhgpmpnglaaCx5
import Derived.Test.YtbfmnhgpmpnglaaCx6
import Derived.Test.YtbfmnhgpmpnglaaCx7
import Derived.Test.YtbfmnhgpmpnglaaCx8
import Derived.Test.YtbfmnhgpmpnglaaCx9
import Derived.Test.YtbfmnhgpmpnglaaCx10
import Derived.Test.YtbfmnhgpmpnglaaCx11
import Derived.Test.YtbfmnhgpmpnglaaCx12
namespace Go.Proofs.Ytbfmnhgpmpnglaa.C
open Go.RowKit Go.Proofs.YtbfmnhgpmpnglaaW.PrintWords Go.Proofs.YtbfmnhgpmpnglaaW.PrintLast Go.Proofs.YtbfmnhgpmpnglaaW.PrintMore
attribute [local go_sem] max2_int min2_int max_two min_two max_three min_three max_four min_four   -- for this text's walks alone
set_option linter.unusedVariables false
set_option linter.unusedSimpArgs false

end Go.Proofs.Ytbfmnhgpmpnglaa.C
