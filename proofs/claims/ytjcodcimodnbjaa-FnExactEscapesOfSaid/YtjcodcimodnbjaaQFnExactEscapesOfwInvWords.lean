/- Words of the walk: plain theorems about the model's worlds and rows. No condition beyond what each states. -/
import Derived.Test.YtjcodcimodnbjaaQFnExactEscapesOfwInv
import Derived.Test.YtjcodcimodnbjaaQFnExactEscapesOfwFootNe
namespace Go.Proofs.YtjcodcimodnbjaaW.PrintWords
open Go.RowKit
end Go.Proofs.YtjcodcimodnbjaaW.PrintWords
namespace Go.Proofs.YtjcodcimodnbjaaW.PrintLast
section
variable {ops : Array Oper} {a : Act} {o og : Oper} {g : Nat} {t : Tmp} {u : Bool}
end
end Go.Proofs.YtjcodcimodnbjaaW.PrintLast

