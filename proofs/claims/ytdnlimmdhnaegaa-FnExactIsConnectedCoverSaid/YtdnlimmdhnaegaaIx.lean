/- The functions that one law reaches, each as a Lean function, and that Go's call comes to what it says. Condition of each: that the Lean function answers (is not none). -/
import Derived.Test.YtdnlimmdhnaegaaIx0
import Derived.Test.YtdnlimmdhnaegaaIx1
import Derived.Test.YtdnlimmdhnaegaaIx2
import Derived.Test.YtdnlimmdhnaegaaIx3
import Derived.Test.YtdnlimmdhnaegaaIx4
import Derived.Test.YtdnlimmdhnaegaaIx5
import Derived.Test.YtdnlimmdhnaegaaIx6
import Derived.Test.YtdnlimmdhnaegaaIx7
import Derived.Test.YtdnlimmdhnaegaaIx8
import Derived.Test.YtdnlimmdhnaegaaIx9
import Derived.Test.YtdnlimmdhnaegaaIx10
import Derived.Test.YtdnlimmdhnaegaaIx11
import Derived.Test.YtdnlimmdhnaegaaIx12
namespace Go.Proofs.Ytdnlimmdhnaegaa.I
open Go.RowKit Go.Proofs.YtdnlimmdhnaegaaW.PrintWords Go.Proofs.YtdnlimmdhnaegaaW.PrintLast Go.Proofs.YtdnlimmdhnaegaaW.PrintMore
attribute [local go_sem] max2_int min2_int max_two min_two max_three min_three max_four min_four   -- for this text's walks alone
set_option linter.unusedVariables false
set_option linter.unusedSimpArgs false

end Go.Proofs.Ytdnlimmdhnaegaa.I
