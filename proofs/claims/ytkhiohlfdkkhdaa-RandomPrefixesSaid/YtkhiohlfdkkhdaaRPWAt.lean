-- Words of the print that this claim's texts mention, picked by the session's own program wip/tools/prune_words.py. Not trusted: Lean checks it.
import Derived.Test.YtkhiohlfdkkhdaaRPWFootNe
namespace Go.Proofs.YtkhiohlfdkkhdaaW.PrintWords
open Go.RowKit
section
variable {w w' u : World} {m B g : Nat} {o : Obj} {row : Option Nat} {S : Nat → Prop} {a : Addr} {v : Value}
end
namespace Kd
section
variable {α : Type} {d : Kd α} {e base n m : Nat} {ok : Nat → Prop} {w w' : World} {v : Value} {A : Option Addr} {xs : List α}
end
end Kd
end Go.Proofs.YtkhiohlfdkkhdaaW.PrintWords

