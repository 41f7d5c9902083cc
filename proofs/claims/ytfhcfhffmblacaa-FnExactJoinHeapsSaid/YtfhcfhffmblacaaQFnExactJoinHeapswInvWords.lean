/- Words of the walk: plain theorems about the model's worlds and rows. No condition beyond what each states. -/
import Derived.Test.YtfhcfhffmblacaaQFnExactJoinHeapswInv
import Derived.Test.YtfhcfhffmblacaaQFnExactJoinHeapswFootNe
namespace Go.Proofs.YtfhcfhffmblacaaW.PrintWords
open Go.RowKit
end Go.Proofs.YtfhcfhffmblacaaW.PrintWords
namespace Go.Proofs.YtfhcfhffmblacaaW.PrintLast
section
variable {ops : Array Oper} {a : Act} {o og : Oper} {g : Nat} {t : Tmp} {u : Bool}
end
end Go.Proofs.YtfhcfhffmblacaaW.PrintLast

