/- The functions that one law reaches, each as a Lean function, and that Go's call comes to what it says. Condition of each: that the Lean function answers (is not none). -/
import Derived.Test.YtgjdbnipcpmhiaaPx0
import Derived.Test.YtgjdbnipcpmhiaaPx1
import Derived.Test.YtgjdbnipcpmhiaaPx2
import Derived.Test.YtgjdbnipcpmhiaaPx3
import Derived.Test.YtgjdbnipcpmhiaaPx4
import Derived.Test.YtgjdbnipcpmhiaaPx5
import Derived.Test.YtgjdbnipcpmhiaaPx6
import Derived.Test.YtgjdbnipcpmhiaaPx7
import Derived.Test.YtgjdbnipcpmhiaaPx8
import Derived.Test.YtgjdbnipcpmhiaaPx9
import Derived.Test.YtgjdbnipcpmhiaaPx10
import Derived.Test.YtgjdbnipcpmhiaaPx11
import Derived.Test.YtgjdbnipcpmhiaaPx12
import Derived.Test.YtgjdbnipcpmhiaaPx13
import Derived.Test.YtgjdbnipcpmhiaaPx14
import Derived.Test.YtgjdbnipcpmhiaaPx15
import Derived.Test.YtgjdbnipcpmhiaaPx16
import Derived.Test.YtgjdbnipcpmhiaaPx17
import Derived.Test.YtgjdbnipcpmhiaaPx18
import Derived.Test.YtgjdbnipcpmhiaaPx19
import Derived.Test.YtgjdbnipcpmhiaaPx20
import Derived.Test.YtgjdbnipcpmhiaaPx21
namespace Go.Proofs.Ytgjdbnipcpmhiaa.P
open Go.RowKit Go.Proofs.YtgjdbnipcpmhiaaW.PrintWords Go.Proofs.YtgjdbnipcpmhiaaW.PrintLast Go.Proofs.YtgjdbnipcpmhiaaW.PrintMore
attribute [local go_sem] max2_int min2_int max_two min_two max_three min_three max_four min_four   -- for this text's walks alone
set_option linter.unusedVariables false
set_option linter.unusedSimpArgs false
end Go.Proofs.Ytgjdbnipcpmhiaa.P
/- Set with little white space, by a program. -/
