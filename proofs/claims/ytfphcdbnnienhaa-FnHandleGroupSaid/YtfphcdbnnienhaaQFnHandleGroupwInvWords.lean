/- Words of the walk: plain theorems about the model's worlds and rows. No condition beyond what each states. -/
import Derived.Test.YtfphcdbnnienhaaQFnHandleGroupwInv
import Derived.Test.YtfphcdbnnienhaaQFnHandleGroupwFootNe
namespace Go.Proofs.YtfphcdbnnienhaaW.PrintWords
open Go.RowKit
end Go.Proofs.YtfphcdbnnienhaaW.PrintWords
namespace Go.Proofs.YtfphcdbnnienhaaW.PrintLast
section
variable {ops : Array Oper} {a : Act} {o og : Oper} {g : Nat} {t : Tmp} {u : Bool}
end
end Go.Proofs.YtfphcdbnnienhaaW.PrintLast

