/- The functions that one law reaches, each as a Lean function, and that Go's call comes to what it says. Condition of each: that the Lean function answers (is not none). -/
import Derived.Test.YtoebojnhchocaaaBx0
import Derived.Test.YtoebojnhchocaaaBx1
import Derived.Test.YtoebojnhchocaaaBx2
import Derived.Test.YtoebojnhchocaaaBx3
import Derived.Test.YtoebojnhchocaaaBx4
import Derived.Test.YtoebojnhchocaaaBx5
import Derived.Test.YtoebojnhchocaaaBx6
import Derived.Test.YtoebojnhchocaaaBx7
import Derived.Test.YtoebojnhchocaaaBx8
import Derived.Test.YtoebojnhchocaaaBx9
import Derived.Test.YtoebojnhchocaaaBx10
import Derived.Test.YtoebojnhchocaaaBx11
import Derived.Test.YtoebojnhchocaaaBx12
import Derived.Test.YtoebojnhchocaaaBx13
import Derived.Test.YtoebojnhchocaaaBx14
import Derived.Test.YtoebojnhchocaaaBx15
import Derived.Test.YtoebojnhchocaaaBx16
import Derived.Test.YtoebojnhchocaaaBx17
import Derived.Test.YtoebojnhchocaaaBx18
import Derived.Test.YtoebojnhchocaaaBx19
import Derived.Test.YtoebojnhchocaaaBx20
namespace Go.Proofs.Ytoebojnhchocaaa.B
open Go.RowKit Go.Proofs.bC.eg Go.Proofs.bC.iZ Go.Proofs.bC.jr
attribute [local go_sem] max2_int min2_int max_two min_two max_three min_three max_four min_four   -- for this text's walks alone
set_option linter.unusedVariables false
set_option linter.unusedSimpArgs false
end Go.Proofs.Ytoebojnhchocaaa.B
/- Set with little white space, by a program. -/
