/- Words of the walk: plain theorems about the model's worlds and rows. No condition beyond what each states. -/
import Derived.Test.YtbglafibhopleaaQFnExactWrapGroupwInv
import Derived.Test.YtbglafibhopleaaQFnExactWrapGroupwFootNe
namespace Go.Proofs.YtbglafibhopleaaW.PrintWords
open Go.RowKit
end Go.Proofs.YtbglafibhopleaaW.PrintWords
namespace Go.Proofs.YtbglafibhopleaaW.PrintLast
section
variable {ops : Array Oper} {a : Act} {o og : Oper} {g : Nat} {t : Tmp} {u : Bool}
end
end Go.Proofs.YtbglafibhopleaaW.PrintLast

