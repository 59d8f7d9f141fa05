-- Words of the print that this claim's texts mention, picked by the session's own program wip/tools/prune_words.py. Not trusted: Lean checks it.
import Derived.Test.YtkhiohlfdkkhdaaRPWTab
namespace Go.Proofs.YtkhiohlfdkkhdaaW.PrintLast
section
variable {P : Program} {ops : Array Oper} {Q : Exit → Act → World → Prop} {md : Region.Mode} {S : World → Prop} {ds : List Nat} {T : Bool × List (List Nat × List Nat)}
end
end Go.Proofs.YtkhiohlfdkkhdaaW.PrintLast

