/- The functions that one law reaches, each as a Lean function, and that Go's call comes to what it says. Condition of each: that the Lean function answers (is not none). -/
import Derived.Test.YtjgdibhalmcigaaAx0
import Derived.Test.YtjgdibhalmcigaaAx1
import Derived.Test.YtjgdibhalmcigaaAx2
import Derived.Test.YtjgdibhalmcigaaAx3
import Derived.Test.YtjgdibhalmcigaaAx4
import Derived.Test.YtjgdibhalmcigaaAx5
import Derived.Test.YtjgdibhalmcigaaAx6
import Derived.Test.YtjgdibhalmcigaaAx7
import Derived.Test.YtjgdibhalmcigaaAx8
import Derived.Test.YtjgdibhalmcigaaAx9
import Derived.Test.YtjgdibhalmcigaaAx10
import Derived.Test.YtjgdibhalmcigaaAx11
namespace Go.Proofs.Ytjgdibhalmcigaa.A
open Go.RowKit Go.Proofs.YtjgdibhalmcigaaW.PrintWords Go.Proofs.YtjgdibhalmcigaaW.PrintLast Go.Proofs.YtjgdibhalmcigaaW.PrintMore
attribute [local go_sem] max2_int min2_int max_two min_two max_three min_three max_four min_four   -- for this text's walks alone
set_option linter.unusedVariables false
set_option linter.unusedSimpArgs false

end Go.Proofs.Ytjgdibhalmcigaa.A
