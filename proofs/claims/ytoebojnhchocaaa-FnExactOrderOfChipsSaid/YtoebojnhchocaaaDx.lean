/- The functions that one law reaches, each as a Lean function, and that Go's call comes to what it says. Condition of each: that the Lean function answers (is not none). -/
import Derived.Test.YtoebojnhchocaaaDx0
import Derived.Test.YtoebojnhchocaaaDx1
import Derived.Test.YtoebojnhchocaaaDx2
import Derived.Test.YtoebojnhchocaaaDx3
import Derived.Test.YtoebojnhchocaaaDx4
import Derived.Test.YtoebojnhchocaaaDx5
import Derived.Test.YtoebojnhchocaaaDx6
import Derived.Test.YtoebojnhchocaaaDx7
import Derived.Test.YtoebojnhchocaaaDx8
import Derived.Test.YtoebojnhchocaaaDx9
import Derived.Test.YtoebojnhchocaaaDx10
import Derived.Test.YtoebojnhchocaaaDx11
import Derived.Test.YtoebojnhchocaaaDx12
import Derived.Test.YtoebojnhchocaaaDx13
import Derived.Test.YtoebojnhchocaaaDx14
import Derived.Test.YtoebojnhchocaaaDx15
import Derived.Test.YtoebojnhchocaaaDx16
import Derived.Test.YtoebojnhchocaaaDx17
import Derived.Test.YtoebojnhchocaaaDx18
import Derived.Test.YtoebojnhchocaaaDx19
namespace Go.Proofs.Ytoebojnhchocaaa.D
open Go.RowKit Go.Proofs.bR.eC Go.Proofs.bR.je Go.Proofs.bR.jO
attribute [local go_sem] max2_int min2_int max_two min_two max_three min_three max_four min_four   -- for this text's walks alone
set_option linter.unusedVariables false
set_option linter.unusedSimpArgs false
end Go.Proofs.Ytoebojnhchocaaa.D
/- Set with little white space, by a program. -/
