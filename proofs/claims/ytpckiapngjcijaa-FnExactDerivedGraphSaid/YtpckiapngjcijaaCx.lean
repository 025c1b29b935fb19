/- The functions that one law reaches, each as a Lean function, and that Go's call comes to what it says. Condition of each: that the Lean function answers (is not none). -/
import Derived.Test.YtpckiapngjcijaaCx0
import Derived.Test.YtpckiapngjcijaaCx1
import Derived.Test.YtpckiapngjcijaaCx2
import Derived.Test.YtpckiapngjcijaaCx3
import Derived.Test.YtpckiapngjcijaaCx4
import Derived.Test.YtpckiapngjcijaaCx5
import Derived.Test.YtpckiapngjcijaaCx6
import Derived.Test.YtpckiapngjcijaaCx7
import Derived.Test.YtpckiapngjcijaaCx8
import Derived.Test.YtpckiapngjcijaaCx9
import Derived.Test.YtpckiapngjcijaaCx10
import Derived.Test.YtpckiapngjcijaaCx11
namespace Go.Proofs.Ytpckiapngjcijaa.C
open Go.RowKit Go.Proofs.YtpckiapngjcijaaW.PrintWords Go.Proofs.YtpckiapngjcijaaW.PrintLast Go.Proofs.YtpckiapngjcijaaW.PrintMore
attribute [local go_sem] max2_int min2_int max_two min_two max_three min_three max_four min_four   -- for this text's walks alone
set_option linter.unusedVariables false
set_option linter.unusedSimpArgs false

end Go.Proofs.Ytpckiapngjcijaa.C
