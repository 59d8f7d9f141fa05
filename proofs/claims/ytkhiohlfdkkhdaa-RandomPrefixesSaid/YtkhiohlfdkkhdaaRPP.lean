-- Written by the session's own program wip/tools/mp.py (over the kit's print) out of the translation. Not trusted: Lean checks it.
import Derived.Test.YtkhiohlfdkkhdaaRPP0
import Derived.Test.YtkhiohlfdkkhdaaRPP1
import Derived.Test.YtkhiohlfdkkhdaaRPP2
import Derived.Test.YtkhiohlfdkkhdaaRPP3
import Derived.Test.YtkhiohlfdkkhdaaRPP4
import Derived.Test.YtkhiohlfdkkhdaaRPP5
import Derived.Test.YtkhiohlfdkkhdaaRPP6
import Derived.Test.YtkhiohlfdkkhdaaRPP7
import Derived.Test.YtkhiohlfdkkhdaaRPP8
import Derived.Test.YtkhiohlfdkkhdaaRPP9
namespace Go.Proofs.Ytkhiohlfdkkhdaa.P
open Go.RowKit Go.Proofs.YtkhiohlfdkkhdaaW.PrintWords Go.Proofs.YtkhiohlfdkkhdaaW.PrintLast Go.Proofs.YtkhiohlfdkkhdaaW.PrintMore
attribute [local go_sem] max2_int min2_int max_two min_two max_three min_three max_four min_four   -- for this text's walks alone
set_option linter.unusedVariables false
set_option linter.unusedSimpArgs false

end Go.Proofs.Ytkhiohlfdkkhdaa.P
