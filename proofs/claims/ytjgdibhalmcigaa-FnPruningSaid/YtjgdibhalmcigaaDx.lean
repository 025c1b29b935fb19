/- The functions that one law reaches, each as a Lean function, and that Go's call comes to what it says. Condition of each: that the Lean function answers (is not none). -/
import Derived.Test.YtjgdibhalmcigaaDx0
import Derived.Test.YtjgdibhalmcigaaDx1
import Derived.Test.YtjgdibhalmcigaaDx2
import Derived.Test.YtjgdibhalmcigaaDx3
import Derived.Test.YtjgdibhalmcigaaDx4
import Derived.Test.YtjgdibhalmcigaaDx5
import Derived.Test.YtjgdibhalmcigaaDx6
import Derived.Test.YtjgdibhalmcigaaDx7
import Derived.Test.YtjgdibhalmcigaaDx8
import Derived.Test.YtjgdibhalmcigaaDx9
import Derived.Test.YtjgdibhalmcigaaDx10
import Derived.Test.YtjgdibhalmcigaaDx11
import Derived.Test.YtjgdibhalmcigaaDx12
import Derived.Test.YtjgdibhalmcigaaDx13
import Derived.Test.YtjgdibhalmcigaaDx14
namespace Go.Proofs.Ytjgdibhalmcigaa.D
open Go.RowKit Go.Proofs.YtjgdibhalmcigaaW.PrintWords Go.Proofs.YtjgdibhalmcigaaW.PrintLast Go.Proofs.YtjgdibhalmcigaaW.PrintMore
attribute [local go_sem] max2_int min2_int max_two min_two max_three min_three max_four min_four   -- for this text's walks alone
set_option linter.unusedVariables false
set_option linter.unusedSimpArgs false
end Go.Proofs.Ytjgdibhalmcigaa.D
/- Set with little white space, by a program. -/
