/- The functions that one law reaches, each as a Lean function, and that Go's call comes to what it says. Condition of each: that the Lean function answers (is not none). -/
import Derived.Test.YtpckiapngjcijaaFx0
import Derived.Test.YtpckiapngjcijaaFx1
import Derived.Test.YtpckiapngjcijaaFx2
import Derived.Test.YtpckiapngjcijaaFx3
import Derived.Test.YtpckiapngjcijaaFx4
import Derived.Test.YtpckiapngjcijaaFx5
import Derived.Test.YtpckiapngjcijaaFx6
import Derived.Test.YtpckiapngjcijaaFx7
import Derived.Test.YtpckiapngjcijaaFx8
namespace Go.Proofs.Ytpckiapngjcijaa.F
open Go.RowKit Go.Proofs.YtpckiapngjcijaaW.PrintWords Go.Proofs.YtpckiapngjcijaaW.PrintLast Go.Proofs.YtpckiapngjcijaaW.PrintMore
attribute [local go_sem] max2_int min2_int max_two min_two max_three min_three max_four min_four   -- for this text's walks alone
set_option linter.unusedVariables false
set_option linter.unusedSimpArgs false

end Go.Proofs.Ytpckiapngjcijaa.F
