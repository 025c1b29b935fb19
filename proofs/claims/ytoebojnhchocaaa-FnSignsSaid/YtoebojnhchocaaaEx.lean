/- The functions that one law reaches, each as a Lean function, and that Go's call comes to what it says. Condition of each: that the Lean function answers (is not none). -/
import Derived.Test.YtoebojnhchocaaaEx0
import Derived.Test.YtoebojnhchocaaaEx1
import Derived.Test.YtoebojnhchocaaaEx2
import Derived.Test.YtoebojnhchocaaaEx3
import Derived.Test.YtoebojnhchocaaaEx4
import Derived.Test.YtoebojnhchocaaaEx5
import Derived.Test.YtoebojnhchocaaaEx6
import Derived.Test.YtoebojnhchocaaaEx7
import Derived.Test.YtoebojnhchocaaaEx8
import Derived.Test.YtoebojnhchocaaaEx9
import Derived.Test.YtoebojnhchocaaaEx10
import Derived.Test.YtoebojnhchocaaaEx11
import Derived.Test.YtoebojnhchocaaaEx12
import Derived.Test.YtoebojnhchocaaaEx13
import Derived.Test.YtoebojnhchocaaaEx14
import Derived.Test.YtoebojnhchocaaaEx15
import Derived.Test.YtoebojnhchocaaaEx16
import Derived.Test.YtoebojnhchocaaaEx17
import Derived.Test.YtoebojnhchocaaaEx18
import Derived.Test.YtoebojnhchocaaaEx19
import Derived.Test.YtoebojnhchocaaaEx20
import Derived.Test.YtoebojnhchocaaaEx21
import Derived.Test.YtoebojnhchocaaaEx22
namespace Go.Proofs.Ytoebojnhchocaaa.E
open Go.RowKit Go.Proofs.bY.apf Go.Proofs.bY.ko Go.Proofs.bY.kN
attribute [local go_sem] max2_int min2_int max_two min_two max_three min_three max_four min_four   -- for this text's walks alone
set_option linter.unusedVariables false
set_option linter.unusedSimpArgs false
end Go.Proofs.Ytoebojnhchocaaa.E
/- Set with little white space, by a program. -/
