-- Words of the print that this claim's texts mention, picked by the session's own program wip/tools/prune_words.py. Not trusted: Lean checks it.
import Derived.Test.YtkhiohlfdkkhdaaRPWApart
import Derived.Test.YtkhiohlfdkkhdaaRPWArr
namespace Go.Proofs.YtkhiohlfdkkhdaaW.PrintWords
open Go.RowKit
section
variable {P : Program}
end
namespace Kd
section
variable {P : Program} {ops : Array Oper} {rest : List Oper} {o : Oper} {a : Act} {Q : Exit → Act → World → Prop} {Kc : Act → World → Prop} {α : Type}
end
section
variable {α : Type} {d : Kd α} {e : Nat} {w : World} {base : Nat} {ok : Nat → Prop} {v : Value} {xs : List α}
end
section
variable {P : Program} {ops : Array Oper} {rest : List Oper} {o : Oper} {a : Act} {Q : Exit → Act → World → Prop} {Kc : Act → World → Prop} {α : Type}
end
end Kd
end Go.Proofs.YtkhiohlfdkkhdaaW.PrintWords

