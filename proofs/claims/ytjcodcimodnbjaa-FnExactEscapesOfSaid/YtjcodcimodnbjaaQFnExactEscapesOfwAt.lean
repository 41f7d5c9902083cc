/- Words of the walk: plain theorems about the model's worlds and rows. No condition beyond what each states. -/
import Derived.Test.YtjcodcimodnbjaaQFnExactEscapesOfwFootNe
namespace Go.Proofs.YtjcodcimodnbjaaW.PrintWords
open Go.RowKit
section
variable {w w' u : World} {m B g : Nat} {o : Obj} {row : Option Nat} {S : Nat → Prop} {a : Addr} {v : Value}
end
namespace Kd
section
variable {α : Type} {d : Kd α} {e base n m : Nat} {ok : Nat → Prop} {w w' : World} {v : Value} {A : Option Addr} {xs : List α}
end
end Kd
end Go.Proofs.YtjcodcimodnbjaaW.PrintWords

