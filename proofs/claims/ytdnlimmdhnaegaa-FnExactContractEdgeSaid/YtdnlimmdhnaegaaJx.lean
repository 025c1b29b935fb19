/- The functions that one law reaches, each as a Lean function, and that Go's call comes to what it says. Condition of each: that the Lean function answers (is not none). -/
import Derived.Test.YtdnlimmdhnaegaaJx0
import Derived.Test.YtdnlimmdhnaegaaJx1
import Derived.Test.YtdnlimmdhnaegaaJx2
import Derived.Test.YtdnlimmdhnaegaaJx3
import Derived.Test.YtdnlimmdhnaegaaJx4
import Derived.Test.YtdnlimmdhnaegaaJx5
import Derived.Test.YtdnlimmdhnaegaaJx6
import Derived.Test.YtdnlimmdhnaegaaJx7
import Derived.Test.YtdnlimmdhnaegaaJx8
namespace Go.Proofs.Ytdnlimmdhnaegaa.J
open Go.RowKit Go.Proofs.YtdnlimmdhnaegaaW.PrintWords Go.Proofs.YtdnlimmdhnaegaaW.PrintLast Go.Proofs.YtdnlimmdhnaegaaW.PrintMore
attribute [local go_sem] max2_int min2_int max_two min_two max_three min_three max_four min_four   -- for this text's walks alone
set_option linter.unusedVariables false
set_option linter.unusedSimpArgs false

end Go.Proofs.Ytdnlimmdhnaegaa.J
