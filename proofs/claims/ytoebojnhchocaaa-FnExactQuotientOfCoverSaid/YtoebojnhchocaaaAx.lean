/- The functions that one law reaches, each as a Lean function, and that Go's call comes to what it says. Condition of each: that the Lean function answers (is not none). -/
import Derived.Test.YtoebojnhchocaaaAx0
import Derived.Test.YtoebojnhchocaaaAx1
import Derived.Test.YtoebojnhchocaaaAx2
import Derived.Test.YtoebojnhchocaaaAx3
import Derived.Test.YtoebojnhchocaaaAx4
import Derived.Test.YtoebojnhchocaaaAx5
import Derived.Test.YtoebojnhchocaaaAx6
import Derived.Test.YtoebojnhchocaaaAx7
import Derived.Test.YtoebojnhchocaaaAx8
import Derived.Test.YtoebojnhchocaaaAx9
import Derived.Test.YtoebojnhchocaaaAx10
import Derived.Test.YtoebojnhchocaaaAx11
import Derived.Test.YtoebojnhchocaaaAx12
import Derived.Test.YtoebojnhchocaaaAx13
import Derived.Test.YtoebojnhchocaaaAx14
import Derived.Test.YtoebojnhchocaaaAx15
import Derived.Test.YtoebojnhchocaaaAx16
import Derived.Test.YtoebojnhchocaaaAx17
import Derived.Test.YtoebojnhchocaaaAx18
namespace Go.Proofs.Ytoebojnhchocaaa.A
open Go.RowKit Go.Proofs.YtoebojnhchocaaaW.PrintWords Go.Proofs.YtoebojnhchocaaaW.PrintLast Go.Proofs.YtoebojnhchocaaaW.PrintMore
attribute [local go_sem] max2_int min2_int max_two min_two max_three min_three max_four min_four   -- for this text's walks alone
set_option linter.unusedVariables false
set_option linter.unusedSimpArgs false
end Go.Proofs.Ytoebojnhchocaaa.A
/- Set with little white space, by a program. -/
