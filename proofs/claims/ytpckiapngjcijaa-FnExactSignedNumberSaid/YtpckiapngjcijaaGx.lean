/- The functions that one law reaches, each as a Lean function, and that Go's call comes to what it says. Condition of each: that the Lean function answers (is not none). -/
import Derived.Test.YtpckiapngjcijaaGx0
import Derived.Test.YtpckiapngjcijaaGx1
import Derived.Test.YtpckiapngjcijaaGx2
import Derived.Test.YtpckiapngjcijaaGx3
import Derived.Test.YtpckiapngjcijaaGx4
import Derived.Test.YtpckiapngjcijaaGx5
import Derived.Test.YtpckiapngjcijaaGx6
import Derived.Test.YtpckiapngjcijaaGx7
import Derived.Test.YtpckiapngjcijaaGx8
import Derived.Test.YtpckiapngjcijaaGx9
import Derived.Test.YtpckiapngjcijaaGx10
import Derived.Test.YtpckiapngjcijaaGx11
namespace Go.Proofs.Ytpckiapngjcijaa.G
open Go.RowKit Go.Proofs.YtpckiapngjcijaaW.PrintWords Go.Proofs.YtpckiapngjcijaaW.PrintLast Go.Proofs.YtpckiapngjcijaaW.PrintMore
attribute [local go_sem] max2_int min2_int max_two min_two max_three min_three max_four min_four   -- for this text's walks alone
set_option linter.unusedVariables false
set_option linter.unusedSimpArgs false

end Go.Proofs.Ytpckiapngjcijaa.G
