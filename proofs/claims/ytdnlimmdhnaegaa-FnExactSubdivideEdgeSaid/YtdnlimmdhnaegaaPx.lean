/- The functions that one law reaches, each as a Lean function, and that Go's call comes to what it says. Condition of each: that the Lean function answers (is not none). -/
import Derived.Test.YtdnlimmdhnaegaaPx0
import Derived.Test.YtdnlimmdhnaegaaPx1
import Derived.Test.YtdnlimmdhnaegaaPx2
import Derived.Test.YtdnlimmdhnaegaaPx3
import Derived.Test.YtdnlimmdhnaegaaPx4
import Derived.Test.YtdnlimmdhnaegaaPx5
import Derived.Test.YtdnlimmdhnaegaaPx6
import Derived.Test.YtdnlimmdhnaegaaPx7
namespace Go.Proofs.Ytdnlimmdhnaegaa.P
open Go.RowKit Go.Proofs.YtdnlimmdhnaegaaW.PrintWords Go.Proofs.YtdnlimmdhnaegaaW.PrintLast Go.Proofs.YtdnlimmdhnaegaaW.PrintMore
attribute [local go_sem] max2_int min2_int max_two min_two max_three min_three max_four min_four   -- for this text's walks alone
set_option linter.unusedVariables false
set_option linter.unusedSimpArgs false

end Go.Proofs.Ytdnlimmdhnaegaa.P
