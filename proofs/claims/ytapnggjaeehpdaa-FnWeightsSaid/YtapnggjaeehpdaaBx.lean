/- The functions that one law reaches, each as a Lean function, and that Go's call comes to what it says. Condition of each: that the Lean function answers (is not none). -/
import Derived.Test.YtapnggjaeehpdaaBx0
import Derived.Test.YtapnggjaeehpdaaBx1
import Derived.Test.YtapnggjaeehpdaaBx2
import Derived.Test.YtapnggjaeehpdaaBx3
import Derived.Test.YtapnggjaeehpdaaBx4
import Derived.Test.YtapnggjaeehpdaaBx5
import Derived.Test.YtapnggjaeehpdaaBx6
import Derived.Test.YtapnggjaeehpdaaBx7
import Derived.Test.YtapnggjaeehpdaaBx8
import Derived.Test.YtapnggjaeehpdaaBx9
import Derived.Test.YtapnggjaeehpdaaBx10
import Derived.Test.YtapnggjaeehpdaaBx11
import Derived.Test.YtapnggjaeehpdaaBx12
import Derived.Test.YtapnggjaeehpdaaBx13
import Derived.Test.YtapnggjaeehpdaaBx14
import Derived.Test.YtapnggjaeehpdaaBx15
import Derived.Test.YtapnggjaeehpdaaBx16
import Derived.Test.YtapnggjaeehpdaaBx17
import Derived.Test.YtapnggjaeehpdaaBx18
import Derived.Test.YtapnggjaeehpdaaBx19
import Derived.Test.YtapnggjaeehpdaaBx20
import Derived.Test.YtapnggjaeehpdaaBx21
import Derived.Test.YtapnggjaeehpdaaBx22
import Derived.Test.YtapnggjaeehpdaaBx23
import Derived.Test.YtapnggjaeehpdaaBx24
import Derived.Test.YtapnggjaeehpdaaBx25
namespace Go.Proofs.Ytapnggjaeehpdaa.B
open Go.RowKit Go.Proofs.bz.dI Go.Proofs.bz.iY Go.Proofs.bz.jn
attribute [local go_sem] max2_int min2_int max_two min_two max_three min_three max_four min_four   -- for this text's walks alone
set_option linter.unusedVariables false
set_option linter.unusedSimpArgs false
end Go.Proofs.Ytapnggjaeehpdaa.B
/- Set with little white space, by a program. -/
