/- The functions that one law reaches, each as a Lean function, and that Go's call comes to what it says. Condition of each: that the Lean function answers (is not none). -/
import Derived.Test.YtapnggjaeehpdaaAx0
import Derived.Test.YtapnggjaeehpdaaAx1
import Derived.Test.YtapnggjaeehpdaaAx2
import Derived.Test.YtapnggjaeehpdaaAx3
import Derived.Test.YtapnggjaeehpdaaAx4
import Derived.Test.YtapnggjaeehpdaaAx5
import Derived.Test.YtapnggjaeehpdaaAx6
import Derived.Test.YtapnggjaeehpdaaAx7
import Derived.Test.YtapnggjaeehpdaaAx8
import Derived.Test.YtapnggjaeehpdaaAx9
import Derived.Test.YtapnggjaeehpdaaAx10
import Derived.Test.YtapnggjaeehpdaaAx11
import Derived.Test.YtapnggjaeehpdaaAx12
import Derived.Test.YtapnggjaeehpdaaAx13
import Derived.Test.YtapnggjaeehpdaaAx14
import Derived.Test.YtapnggjaeehpdaaAx15
import Derived.Test.YtapnggjaeehpdaaAx16
import Derived.Test.YtapnggjaeehpdaaAx17
import Derived.Test.YtapnggjaeehpdaaAx18
import Derived.Test.YtapnggjaeehpdaaAx19
import Derived.Test.YtapnggjaeehpdaaAx20
import Derived.Test.YtapnggjaeehpdaaAx21
import Derived.Test.YtapnggjaeehpdaaAx22
namespace Go.Proofs.Ytapnggjaeehpdaa.A
open Go.RowKit Go.Proofs.bB.dI Go.Proofs.bB.ark Go.Proofs.bB.jd
attribute [local go_sem] max2_int min2_int max_two min_two max_three min_three max_four min_four   -- for this text's walks alone
set_option linter.unusedVariables false
set_option linter.unusedSimpArgs false
end Go.Proofs.Ytapnggjaeehpdaa.A
/- Set with little white space, by a program. -/
