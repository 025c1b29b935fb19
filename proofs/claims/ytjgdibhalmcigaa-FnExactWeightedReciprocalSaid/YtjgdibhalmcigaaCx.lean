/- The functions that one law reaches, each as a Lean function, and that Go's call comes to what it says. Condition of each: that the Lean function answers (is not none). -/
import Derived.Test.YtjgdibhalmcigaaCx0
import Derived.Test.YtjgdibhalmcigaaCx1
import Derived.Test.YtjgdibhalmcigaaCx2
import Derived.Test.YtjgdibhalmcigaaCx3
import Derived.Test.YtjgdibhalmcigaaCx4
import Derived.Test.YtjgdibhalmcigaaCx5
import Derived.Test.YtjgdibhalmcigaaCx6
import Derived.Test.YtjgdibhalmcigaaCx7
import Derived.Test.YtjgdibhalmcigaaCx8
import Derived.Test.YtjgdibhalmcigaaCx9
import Derived.Test.YtjgdibhalmcigaaCx10
import Derived.Test.YtjgdibhalmcigaaCx11
import Derived.Test.YtjgdibhalmcigaaCx12
namespace Go.Proofs.Ytjgdibhalmcigaa.C
open Go.RowKit Go.Proofs.YtjgdibhalmcigaaW.PrintWords Go.Proofs.YtjgdibhalmcigaaW.PrintLast Go.Proofs.YtjgdibhalmcigaaW.PrintMore
attribute [local go_sem] max2_int min2_int max_two min_two max_three min_three max_four min_four   -- for this text's walks alone
set_option linter.unusedVariables false
set_option linter.unusedSimpArgs false

end Go.Proofs.Ytjgdibhalmcigaa.C
