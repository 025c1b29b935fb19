/- The functions that one law reaches, each as a Lean function, and that Go's call comes to what it says. Condition of each: that the Lean function answers (is not none). -/
import Derived.Test.YtoebojnhchocaaaCx0
import Derived.Test.YtoebojnhchocaaaCx1
import Derived.Test.YtoebojnhchocaaaCx2
import Derived.Test.YtoebojnhchocaaaCx3
import Derived.Test.YtoebojnhchocaaaCx4
import Derived.Test.YtoebojnhchocaaaCx5
import Derived.Test.YtoebojnhchocaaaCx6
import Derived.Test.YtoebojnhchocaaaCx7
import Derived.Test.YtoebojnhchocaaaCx8
import Derived.Test.YtoebojnhchocaaaCx9
import Derived.Test.YtoebojnhchocaaaCx10
import Derived.Test.YtoebojnhchocaaaCx11
import Derived.Test.YtoebojnhchocaaaCx12
import Derived.Test.YtoebojnhchocaaaCx13
import Derived.Test.YtoebojnhchocaaaCx14
import Derived.Test.YtoebojnhchocaaaCx15
import Derived.Test.YtoebojnhchocaaaCx16
import Derived.Test.YtoebojnhchocaaaCx17
import Derived.Test.YtoebojnhchocaaaCx18
import Derived.Test.YtoebojnhchocaaaCx19
import Derived.Test.YtoebojnhchocaaaCx20
namespace Go.Proofs.Ytoebojnhchocaaa.C
open Go.RowKit Go.Proofs.bI.en Go.Proofs.bI.je Go.Proofs.bI.jC
attribute [local go_sem] max2_int min2_int max_two min_two max_three min_three max_four min_four   -- for this text's walks alone
set_option linter.unusedVariables false
set_option linter.unusedSimpArgs false
end Go.Proofs.Ytoebojnhchocaaa.C
/- Set with little white space, by a program. -/
