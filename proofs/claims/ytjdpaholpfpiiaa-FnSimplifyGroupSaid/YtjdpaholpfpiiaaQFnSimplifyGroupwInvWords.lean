/- Words of the walk: plain theorems about the model's worlds and rows. No condition beyond what each states. -/
import Derived.Test.YtjdpaholpfpiiaaQFnSimplifyGroupwInv
import Derived.Test.YtjdpaholpfpiiaaQFnSimplifyGroupwFootNe
namespace Go.Proofs.YtjdpaholpfpiiaaW.PrintWords
open Go.RowKit
end Go.Proofs.YtjdpaholpfpiiaaW.PrintWords
namespace Go.Proofs.YtjdpaholpfpiiaaW.PrintLast
section
variable {ops : Array Oper} {a : Act} {o og : Oper} {g : Nat} {t : Tmp} {u : Bool}
end
end Go.Proofs.YtjdpaholpfpiiaaW.PrintLast

