/- The functions that one law reaches, each as a Lean function, and that Go's call comes to what it says. Condition of each: that the Lean function answers (is not none). -/
import Derived.Test.YtoebojnhchocaaaGx0
import Derived.Test.YtoebojnhchocaaaGx1
import Derived.Test.YtoebojnhchocaaaGx2
import Derived.Test.YtoebojnhchocaaaGx3
import Derived.Test.YtoebojnhchocaaaGx4
import Derived.Test.YtoebojnhchocaaaGx5
import Derived.Test.YtoebojnhchocaaaGx6
import Derived.Test.YtoebojnhchocaaaGx7
import Derived.Test.YtoebojnhchocaaaGx8
import Derived.Test.YtoebojnhchocaaaGx9
import Derived.Test.YtoebojnhchocaaaGx10
import Derived.Test.YtoebojnhchocaaaGx11
import Derived.Test.YtoebojnhchocaaaGx12
import Derived.Test.YtoebojnhchocaaaGx13
import Derived.Test.YtoebojnhchocaaaGx14
import Derived.Test.YtoebojnhchocaaaGx15
import Derived.Test.YtoebojnhchocaaaGx16
import Derived.Test.YtoebojnhchocaaaGx17
namespace Go.Proofs.Ytoebojnhchocaaa.G
open Go.RowKit Go.Proofs.cx.fq Go.Proofs.cx.jX Go.Proofs.cx.lu
attribute [local go_sem] max2_int min2_int max_two min_two max_three min_three max_four min_four   -- for this text's walks alone
set_option linter.unusedVariables false
set_option linter.unusedSimpArgs false
end Go.Proofs.Ytoebojnhchocaaa.G
/- Set with little white space, by a program. -/
