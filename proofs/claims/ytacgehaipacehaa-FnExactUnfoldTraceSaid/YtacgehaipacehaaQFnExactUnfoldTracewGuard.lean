/- Words of the walk: plain theorems about the model's worlds and rows. No condition beyond what each states. -/
import Derived.Test.YtacgehaipacehaaQFnExactUnfoldTracewWords
namespace Go.Proofs.YtacgehaipacehaaW.PrintWords
open Go.RowKit
section
variable {P : Program} {ops : Array Oper} {rest : List Oper} {o : Oper} {a : Act} {Q : Exit → Act → World → Prop} {W : World}
end
end Go.Proofs.YtacgehaipacehaaW.PrintWords

