/- The functions that one law reaches, each as a Lean function, and that Go's call comes to what it says. Condition of each: that the Lean function answers (is not none). -/
import Derived.Test.YtjgdibhalmcigaaBx0
import Derived.Test.YtjgdibhalmcigaaBx1
import Derived.Test.YtjgdibhalmcigaaBx2
import Derived.Test.YtjgdibhalmcigaaBx3
import Derived.Test.YtjgdibhalmcigaaBx4
import Derived.Test.YtjgdibhalmcigaaBx5
import Derived.Test.YtjgdibhalmcigaaBx6
import Derived.Test.YtjgdibhalmcigaaBx7
import Derived.Test.YtjgdibhalmcigaaBx8
import Derived.Test.YtjgdibhalmcigaaBx9
import Derived.Test.YtjgdibhalmcigaaBx10
namespace Go.Proofs.Ytjgdibhalmcigaa.B
open Go.RowKit Go.Proofs.YtjgdibhalmcigaaW.PrintWords Go.Proofs.YtjgdibhalmcigaaW.PrintLast Go.Proofs.YtjgdibhalmcigaaW.PrintMore
attribute [local go_sem] max2_int min2_int max_two min_two max_three min_three max_four min_four   -- for this text's walks alone
set_option linter.unusedVariables false
set_option linter.unusedSimpArgs false

end Go.Proofs.Ytjgdibhalmcigaa.B
