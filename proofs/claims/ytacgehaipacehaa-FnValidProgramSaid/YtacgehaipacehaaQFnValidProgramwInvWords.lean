/- Words of the walk: plain theorems about the model's worlds and rows. No condition beyond what each states. -/
import Derived.Test.YtacgehaipacehaaQFnValidProgramwInv
import Derived.Test.YtacgehaipacehaaQFnValidProgramwFootNe
namespace Go.Proofs.YtacgehaipacehaaW.PrintWords
open Go.RowKit
end Go.Proofs.YtacgehaipacehaaW.PrintWords
namespace Go.Proofs.YtacgehaipacehaaW.PrintLast
section
variable {ops : Array Oper} {a : Act} {o og : Oper} {g : Nat} {t : Tmp} {u : Bool}
end
end Go.Proofs.YtacgehaipacehaaW.PrintLast

