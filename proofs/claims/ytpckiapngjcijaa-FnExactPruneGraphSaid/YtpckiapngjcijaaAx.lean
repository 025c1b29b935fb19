/- The functions that one law reaches, each as a Lean function, and that Go's call comes to what it says. Condition of each: that the Lean function answers (is not none). -/
import Derived.Test.YtpckiapngjcijaaAx0
import Derived.Test.YtpckiapngjcijaaAx1
import Derived.Test.YtpckiapngjcijaaAx2
import Derived.Test.YtpckiapngjcijaaAx3
import Derived.Test.YtpckiapngjcijaaAx4
import Derived.Test.YtpckiapngjcijaaAx5
import Derived.Test.YtpckiapngjcijaaAx6
import Derived.Test.YtpckiapngjcijaaAx7
import Derived.Test.YtpckiapngjcijaaAx8
import Derived.Test.YtpckiapngjcijaaAx9
namespace Go.Proofs.Ytpckiapngjcijaa.A
open Go.RowKit Go.Proofs.YtpckiapngjcijaaW.PrintWords Go.Proofs.YtpckiapngjcijaaW.PrintLast Go.Proofs.YtpckiapngjcijaaW.PrintMore
attribute [local go_sem] max2_int min2_int max_two min_two max_three min_three max_four min_four   -- for this text's walks alone
set_option linter.unusedVariables false
set_option linter.unusedSimpArgs false

end Go.Proofs.Ytpckiapngjcijaa.A
