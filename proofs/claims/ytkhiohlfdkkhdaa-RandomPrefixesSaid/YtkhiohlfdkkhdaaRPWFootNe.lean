-- Words of the print that this claim's texts mention, picked by the session's own program wip/tools/prune_words.py. Not trusted: Lean checks it.
import Derived.Test.YtkhiohlfdkkhdaaRPWN
namespace Go.Proofs.YtkhiohlfdkkhdaaW.PrintWords
open Go.RowKit
namespace Kd
section
variable {α : Type} {d : Kd α} {W : World} {g n : Nat} {S ok : Nat → Prop} {A : Option Addr} {ad : Addr} {xs : List α}
end
end Kd
end Go.Proofs.YtkhiohlfdkkhdaaW.PrintWords

