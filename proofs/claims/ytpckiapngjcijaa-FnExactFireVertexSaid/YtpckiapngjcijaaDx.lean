/- The functions that one law reaches, each as a Lean function, and that Go's call comes to what it says. Condition of each: that the Lean function answers (is not none). -/
import Derived.Test.YtpckiapngjcijaaDx0
import Derived.Test.YtpckiapngjcijaaDx1
import Derived.Test.YtpckiapngjcijaaDx2
import Derived.Test.YtpckiapngjcijaaDx3
import Derived.Test.YtpckiapngjcijaaDx4
import Derived.Test.YtpckiapngjcijaaDx5
import Derived.Test.YtpckiapngjcijaaDx6
import Derived.Test.YtpckiapngjcijaaDx7
import Derived.Test.YtpckiapngjcijaaDx8
import Derived.Test.YtpckiapngjcijaaDx9
import Derived.Test.YtpckiapngjcijaaDx10
import Derived.Test.YtpckiapngjcijaaDx11
namespace Go.Proofs.Ytpckiapngjcijaa.D
open Go.RowKit Go.Proofs.YtpckiapngjcijaaW.PrintWords Go.Proofs.YtpckiapngjcijaaW.PrintLast Go.Proofs.YtpckiapngjcijaaW.PrintMore
attribute [local go_sem] max2_int min2_int max_two min_two max_three min_three max_four min_four   -- for this text's walks alone
set_option linter.unusedVariables false
set_option linter.unusedSimpArgs false

end Go.Proofs.Ytpckiapngjcijaa.D
