/- Words of the walk: plain theorems about the model's worlds and rows. No condition beyond what each states. -/
import Derived.Test.YtmiholmfbjalfaaQFnNewFaultwInv
import Derived.Test.YtmiholmfbjalfaaQFnNewFaultwFootNe
namespace Go.Proofs.YtmiholmfbjalfaaW.PrintWords
open Go.RowKit
end Go.Proofs.YtmiholmfbjalfaaW.PrintWords
namespace Go.Proofs.YtmiholmfbjalfaaW.PrintLast
section
variable {ops : Array Oper} {a : Act} {o og : Oper} {g : Nat} {t : Tmp} {u : Bool}
end
end Go.Proofs.YtmiholmfbjalfaaW.PrintLast

