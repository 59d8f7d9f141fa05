-- Words of the print that this claim's texts mention, picked by the session's own program wip/tools/prune_words.py. Not trusted: Lean checks it.
import Derived.Test.YtkhiohlfdkkhdaaRPWInv
import Derived.Test.YtkhiohlfdkkhdaaRPWFootNe
namespace Go.Proofs.YtkhiohlfdkkhdaaW.PrintWords
open Go.RowKit
end Go.Proofs.YtkhiohlfdkkhdaaW.PrintWords
namespace Go.Proofs.YtkhiohlfdkkhdaaW.PrintLast
section
variable {ops : Array Oper} {a : Act} {o og : Oper} {g : Nat} {t : Tmp} {u : Bool}
end
end Go.Proofs.YtkhiohlfdkkhdaaW.PrintLast

