/- Texts under the proof of FnValidProgram: helper words, the functions' contracts and the plain laws. No condition. -/
import Derived.Test.YtacgehaipacehaaQFnValidPrograma
namespace Go.Proofs.Ytacgehaipacehaa.P
open Go.RowKit Go.Proofs.YtacgehaipacehaaW.PrintWords Go.Proofs.YtacgehaipacehaaW.PrintLast Go.Proofs.YtacgehaipacehaaW.PrintMore Go.Proofs.YtacgehaipacehaaW.PrintWords.Kd
attribute [local go_sem] max2_int min2_int max_two min_two max_three min_three max_four min_four
set_option linter.unusedVariables false
set_option linter.unusedSimpArgs false
abbrev bm72_ : Array Bool := #[false,false,false,false,false,false,false,false,false,false,false,false,false,false,false,false,false,false,false,false,false,false,false,false,false,false,false,false,false,false,false,false,false,false,false,false,false,false,false,false,false,false,false,false,false,false,false,false,false,false,false,false,false,false,false]
abbrev bm73_ : Array Bool := #[true,false,false,false,false,false,false,false,false,false,false,false,false,false,false,false,false,false,false,false,false,false,false,false,false,false,false,false,false,false,false,false,false,false,false,false,false,false,false,false,false,false,false,false,false,false,false,false,false,false,false,false,false,false,false]
abbrev bm74_ : Array Bool := #[true,true,false,false,false,false,false,false,false,false,false,false,false,false,false,false,false,false,false,false,false,false,false,false,false,false,false,false,false,false,false,false,false,false,false,false,false,false,false,false,false,false,false,false,false,false,false,false,false,false,false,false,false,false,false]
abbrev bm75_ : Array Bool := #[true,true,true,false,false,false,false,false,false,false,false,false,false,false,false,false,false,false,false,false,false,false,false,false,false,false,false,false,false,false,false,false,false,false,false,false,false,false,false,false,false,false,false,false,false,false,false,false,false,false,false,false,false,false,false]
abbrev bm76_ : Array Bool := #[true,true,true,true,false,false,false,false,false,false,false,false,false,false,false,false,false,false,false,false,false,false,false,false,false,false,false,false,false,false,false,false,false,false,false,false,false,false,false,false,false,false,false,false,false,false,false,false,false,false,false,false,false,false,false]
abbrev bm77_ : Array Bool := #[true,true,true,true,true,false,false,false,false,false,false,false,false,false,false,false,false,false,false,false,false,false,false,false,false,false,false,false,false,false,false,false,false,false,false,false,false,false,false,false,false,false,false,false,false,false,false,false,false,false,false,false,false,false,false]
abbrev bm78_ : Array Bool := #[true,true,true,true,true,true,false,false,false,false,false,false,false,false,false,false,false,false,false,false,false,false,false,false,false,false,false,false,false,false,false,false,false,false,false,false,false,false,false,false,false,false,false,false,false,false,false,false,false,false,false,false,false,false,false]
abbrev bm79_ : Array Bool := #[true,true,true,true,true,true,true,false,false,false,false,false,false,false,false,false,false,false,false,false,false,false,false,false,false,false,false,false,false,false,false,false,false,false,false,false,false,false,false,false,false,false,false,false,false,false,false,false,false,false,false,false,false,false,false]
abbrev bm80_ : Array Bool := #[true,true,true,true,true,true,true,true,false,false,false,false,false,false,false,false,false,false,false,false,false,false,false,false,false,false,false,false,false,false,false,false,false,false,false,false,false,false,false,false,false,false,false,false,false,false,false,false,false,false,false,false,false,false,false]
abbrev bm81_ : Array Bool := #[true,true,true,true,true,true,true,true,true,false,false,false,false,false,false,false,false,false,false,false,false,false,false,false,false,false,false,false,false,false,false,false,false,false,false,false,false,false,false,false,false,false,false,false,false,false,false,false,false,false,false,false,false,false,false]
abbrev bm82_ : Array Bool := #[true,true,true,true,true,true,true,true,true,true,false,false,false,false,false,false,false,false,false,false,false,false,false,false,false,false,false,false,false,false,false,false,false,false,false,false,false,false,false,false,false,false,false,false,false,false,false,false,false,false,false,false,false,false,false]
abbrev bm83_ : Array Bool := #[true,true,true,true,true,true,true,true,true,true,true,false,false,false,false,false,false,false,false,false,false,false,false,false,false,false,false,false,false,false,false,false,false,false,false,false,false,false,false,false,false,false,false,false,false,false,false,false,false,false,false,false,false,false,false]
abbrev bm84_ : Array Bool := #[true,true,true,true,true,true,true,true,true,true,true,true,false,false,false,false,false,false,false,false,false,false,false,false,false,false,false,false,false,false,false,false,false,false,false,false,false,false,false,false,false,false,false,false,false,false,false,false,false,false,false,false,false,false,false]
abbrev bm85_ : Array Bool := #[true,true,true,true,true,true,true,true,true,true,true,true,true,false,false,false,false,false,false,false,false,false,false,false,false,false,false,false,false,false,false,false,false,false,false,false,false,false,false,false,false,false,false,false,false,false,false,false,false,false,false,false,false,false,false]
abbrev bm86_ : Array Bool := #[true,true,true,true,true,true,true,true,true,true,true,true,true,true,false,false,false,false,false,false,false,false,false,false,false,false,false,false,false,false,false,false,false,false,false,false,false,false,false,false,false,false,false,false,false,false,false,false,false,false,false,false,false,false,false]
abbrev bm87_ : Array Bool := #[true,true,true,true,true,true,true,true,true,true,true,true,true,true,true,false,false,false,false,false,false,false,false,false,false,false,false,false,false,false,false,false,false,false,false,false,false,false,false,false,false,false,false,false,false,false,false,false,false,false,false,false,false,false,false]
abbrev bm88_ : Array Bool := #[true,true,true,true,true,true,true,true,true,true,true,true,true,true,true,true,false,false,false,false,false,false,false,false,false,false,false,false,false,false,false,false,false,false,false,false,false,false,false,false,false,false,false,false,false,false,false,false,false,false,false,false,false,false,false]
abbrev bm89_ : Array Bool := #[true,true,true,true,true,true,true,true,true,true,true,true,true,true,true,true,true,false,false,false,false,false,false,false,false,false,false,false,false,false,false,false,false,false,false,false,false,false,false,false,false,false,false,false,false,false,false,false,false,false,false,false,false,false,false]
abbrev bm90_ : Array Bool := #[true,true,true,true,true,true,true,true,true,true,true,true,true,true,true,true,true,true,false,false,false,false,false,false,false,false,false,false,false,false,false,false,false,false,false,false,false,false,false,false,false,false,false,false,false,false,false,false,false,false,false,false,false,false,false]
abbrev bm91_ : Array Bool := #[true,true,true,true,true,true,true,true,true,true,true,true,true,true,true,true,true,true,true,false,false,false,false,false,false,false,false,false,false,false,false,false,false,false,false,false,false,false,false,false,false,false,false,false,false,false,false,false,false,false,false,false,false,false,false]
abbrev bm92_ : Array Bool := #[true,true,true,true,true,true,true,true,true,true,true,true,true,true,true,true,true,true,true,true,false,false,false,false,false,false,false,false,false,false,false,false,false,false,false,false,false,false,false,false,false,false,false,false,false,false,false,false,false,false,false,false,false,false,false]
abbrev bm93_ : Array Bool := #[true,true,true,true,true,true,true,true,true,true,true,true,true,true,true,true,true,true,true,true,true,false,false,false,false,false,false,false,false,false,false,false,false,false,false,false,false,false,false,false,false,false,false,false,false,false,false,false,false,false,false,false,false,false,false]
abbrev bm94_ : Array Bool := #[true,true,true,true,true,true,true,true,true,true,true,true,true,true,true,true,true,true,true,true,true,true,false,false,false,false,false,false,false,false,false,false,false,false,false,false,false,false,false,false,false,false,false,false,false,false,false,false,false,false,false,false,false,false,false]
abbrev bm95_ : Array Bool := #[true,true,true,true,true,true,true,true,true,true,true,true,true,true,true,true,true,true,true,true,true,true,true,false,false,false,false,false,false,false,false,false,false,false,false,false,false,false,false,false,false,false,false,false,false,false,false,false,false,false,false,false,false,false,false]
abbrev bm96_ : Array Bool := #[true,true,true,true,true,true,true,true,true,true,true,true,true,true,true,true,true,true,true,true,true,true,true,true,false,false,false,false,false,false,false,false,false,false,false,false,false,false,false,false,false,false,false,false,false,false,false,false,false,false,false,false,false,false,false]
abbrev bm97_ : Array Bool := #[true,true,true,true,true,true,true,true,true,true,true,true,true,true,true,true,true,true,true,true,true,true,true,true,true,false,false,false,false,false,false,false,false,false,false,false,false,false,false,false,false,false,false,false,false,false,false,false,false,false,false,false,false,false,false]
abbrev bm98_ : Array Bool := #[true,true,true,true,true,true,true,true,true,true,true,true,true,true,true,true,true,true,true,true,true,true,true,true,true,true,false,false,false,false,false,false,false,false,false,false,false,false,false,false,false,false,false,false,false,false,false,false,false,false,false,false,false,false,false]
abbrev bm99_ : Array Bool := #[true,true,true,true,true,true,true,true,true,true,true,true,true,true,true,true,true,true,true,true,true,true,true,true,true,true,true,false,false,false,false,false,false,false,false,false,false,false,false,false,false,false,false,false,false,false,false,false,false,false,false,false,false,false,false]
abbrev bm100_ : Array Bool := #[true,true,true,true,true,true,true,true,true,true,true,true,true,true,true,true,true,true,true,true,true,true,true,true,true,true,true,true,false,false,false,false,false,false,false,false,false,false,false,false,false,false,false,false,false,false,false,false,false,false,false,false,false,false,false]
abbrev bm101_ : Array Bool := #[true,true,true,true,true,true,true,true,true,true,true,true,true,true,true,true,true,true,true,true,true,true,true,true,true,true,true,true,true,false,false,false,false,false,false,false,false,false,false,false,false,false,false,false,false,false,false,false,false,false,false,false,false,false,false]
abbrev bm102_ : Array Bool := #[true,true,true,true,true,true,true,true,true,true,true,true,true,true,true,true,true,true,true,true,true,true,true,true,true,true,true,true,true,true,false,false,false,false,false,false,false,false,false,false,false,false,false,false,false,false,false,false,false,false,false,false,false,false,false]
abbrev bm103_ : Array Bool := #[true,true,true,true,true,true,true,true,true,true,true,true,true,true,true,true,true,true,true,true,true,true,true,true,true,true,true,true,true,true,true,false,false,false,false,false,false,false,false,false,false,false,false,false,false,false,false,false,false,false,false,false,false,false,false]
abbrev bm104_ : Array Bool := #[true,true,true,true,true,true,true,true,true,true,true,true,true,true,true,true,true,true,true,true,true,true,true,true,true,true,true,true,true,true,true,true,false,false,false,false,false,false,false,false,false,false,false,false,false,false,false,false,false,false,false,false,false,false,false]
abbrev bm105_ : Array Bool := #[true,true,true,true,true,true,true,true,true,true,true,true,true,true,true,true,true,true,true,true,true,true,true,true,true,true,true,true,true,true,true,true,true,false,false,false,false,false,false,false,false,false,false,false,false,false,false,false,false,false,false,false,false,false,false]
abbrev bm106_ : Array Bool := #[true,true,true,true,true,true,true,true,true,true,true,true,true,true,true,true,true,true,true,true,true,true,true,true,true,true,true,true,true,true,true,true,true,true,false,false,false,false,false,false,false,false,false,false,false,false,false,false,false,false,false,false,false,false,false]
abbrev bm107_ : Array Bool := #[true,true,true,true,true,true,true,true,true,true,true,true,true,true,true,true,true,true,true,true,true,true,true,true,true,true,true,true,true,true,true,true,true,true,true,false,false,false,false,false,false,false,false,false,false,false,false,false,false,false,false,false,false,false,false]
abbrev bm108_ : Array Bool := #[true,true,true,true,true,true,true,true,true,true,true,true,true,true,true,true,true,true,true,true,true,true,true,true,true,true,true,true,true,true,true,true,true,true,true,true,false,false,false,false,false,false,false,false,false,false,false,false,false,false,false,false,false,false,false]
abbrev bm109_ : Array Bool := #[true,true,true,true,true,true,true,true,true,true,true,true,true,true,true,true,true,true,true,true,true,true,true,true,true,true,true,true,true,true,true,true,true,true,true,true,true,false,false,false,false,false,false,false,false,false,false,false,false,false,false,false,false,false,false]
abbrev bm110_ : Array Bool := #[true,true,true,true,true,true,true,true,true,true,true,true,true,true,true,true,true,true,true,true,true,true,true,true,true,true,true,true,true,true,true,true,true,true,true,true,true,true,false,false,false,false,false,false,false,false,false,false,false,false,false,false,false,false,false]
abbrev bm111_ : Array Bool := #[true,true,true,true,true,true,true,true,true,true,true,true,true,true,true,true,true,true,true,true,true,true,true,true,true,true,true,true,true,true,true,true,true,true,true,true,true,true,true,false,false,false,false,false,false,false,false,false,false,false,false,false,false,false,false]
abbrev bm112_ : Array Bool := #[true,true,true,true,true,true,true,true,true,true,true,true,true,true,true,true,true,true,true,true,true,true,true,true,true,true,true,true,true,true,true,true,true,true,true,true,true,true,true,true,false,false,false,false,false,false,false,false,false,false,false,false,false,false,false]
abbrev bm113_ : Array Bool := #[true,true,true,true,true,true,true,true,true,true,true,true,true,true,true,true,true,true,true,true,true,true,true,true,true,true,true,true,true,true,true,true,true,true,true,true,true,true,true,true,true,false,false,false,false,false,false,false,false,false,false,false,false,false,false]
abbrev bm114_ : Array Bool := #[true,true,true,true,true,true,true,true,true,true,true,true,true,true,true,true,true,true,true,true,true,true,true,true,true,true,true,true,true,true,true,true,true,true,true,true,true,true,true,true,true,true,false,false,false,false,false,false,false,false,false,false,false,false,false]
abbrev bm115_ : Array Bool := #[true,true,true,true,true,true,true,true,true,true,true,true,true,true,true,true,true,true,true,true,true,true,true,true,true,true,true,true,true,true,true,true,true,true,true,true,true,true,true,true,true,true,true,false,false,false,false,false,false,false,false,false,false,false,false]
abbrev bm116_ : Array Bool := #[true,true,true,true,true,true,true,true,true,true,true,true,true,true,true,true,true,true,true,true,true,true,true,true,true,true,true,true,true,true,true,true,true,true,true,true,true,true,true,true,true,true,true,true,false,false,false,false,false,false,false,false,false,false,false]
abbrev bm117_ : Array Bool := #[true,true,true,true,true,true,true,true,true,true,true,true,true,true,true,true,true,true,true,true,true,true,true,true,true,true,true,true,true,true,true,true,true,true,true,true,true,true,true,true,true,true,true,true,true,false,false,false,false,false,false,false,false,false,false]
abbrev bm118_ : Array Bool := #[true,true,true,true,true,true,true,true,true,true,true,true,true,true,true,true,true,true,true,true,true,true,true,true,true,true,true,true,true,true,true,true,true,true,true,true,true,true,true,true,true,true,true,true,true,true,false,false,false,false,false,false,false,false,false]
abbrev bm119_ : Array Bool := #[true,true,true,true,true,true,true,true,true,true,true,true,true,true,true,true,true,true,true,true,true,true,true,true,true,true,true,true,true,true,true,true,true,true,true,true,true,true,true,true,true,true,true,true,true,true,true,false,false,false,false,false,false,false,false]
abbrev bm120_ : Array Bool := #[true,true,true,true,true,true,true,true,true,true,true,true,true,true,true,true,true,true,true,true,true,true,true,true,true,true,true,true,true,true,true,true,true,true,true,true,true,true,true,true,true,true,true,true,true,true,true,true,false,false,false,false,false,false,false]
abbrev bm121_ : Array Bool := #[true,true,true,true,true,true,true,true,true,true,true,true,true,true,true,true,true,true,true,true,true,true,true,true,true,true,true,true,true,true,true,true,true,true,true,true,true,true,true,true,true,true,true,true,true,true,true,true,true,false,false,false,false,false,false]
abbrev bm122_ : Array Bool := #[true,true,true,true,true,true,true,true,true,true,true,true,true,true,true,true,true,true,true,true,true,true,true,true,true,true,true,true,true,true,true,true,true,true,true,true,true,true,true,true,true,true,true,true,true,true,true,true,true,true,false,false,false,false,false]
abbrev bm123_ : Array Bool := #[true,true,true,true,true,true,true,true,true,true,true,true,true,true,true,true,true,true,true,true,true,true,true,true,true,true,true,true,true,true,true,true,true,true,true,true,true,true,true,true,true,true,true,true,true,true,true,true,true,true,true,false,false,false,false]
abbrev bm124_ : Array Bool := #[true,true,true,true,true,true,true,true,true,true,true,true,true,true,true,true,true,true,true,true,true,true,true,true,true,true,true,true,true,true,true,true,true,true,true,true,true,true,true,true,true,true,true,true,true,true,true,true,true,true,true,true,false,false,false]
abbrev bm125_ : Array Bool := #[true,true,true,true,true,true,true,true,true,true,true,true,true,true,true,true,true,true,true,true,true,true,true,true,true,true,true,true,true,true,true,true,true,true,true,true,true,true,true,true,true,true,true,true,true,true,true,true,true,true,true,true,true,false,false]
abbrev bm126_ : Array Bool := #[true,true,true,true,true,true,true,true,true,true,true,true,true,true,true,true,true,true,true,true,true,true,true,true,true,true,true,true,true,true,true,true,true,true,true,true,true,true,true,true,true,true,true,true,true,true,true,true,true,true,true,true,true,true,false]
abbrev bm127_ : Array Bool := #[true,true,true,true,true,true,true,true,true,true,true,true,true,true,true,true,true,true,true,true,true,true,true,true,true,true,true,true,true,true,true,true,true,true,true,true,true,true,true,true,true,true,true,true,true,true,true,true,true,true,true,true,true,true,true]
abbrev bm128_ : Array Bool := #[true,true,true,true,true,true,true,true,true,true,true,true,false,true,false,false,false,false,false,false,false,false,false,false,false,false,false,false,false,false,false,false,false,false,false,false,false,false,false,false,false,false,false,false,false,false,false,false,false,false,false,false,false,false,false]
abbrev bm129_ : Array Bool := #[true,true,true,true,true,true,true,true,true,true,true,true,false,true,true,false,false,false,false,false,false,false,false,false,false,false,false,false,false,false,false,false,false,false,false,false,false,false,false,false,false,false,false,false,false,false,false,false,false,false,false,false,false,false,false]
abbrev bm130_ : Array Bool := #[true,true,true,true,true,true,true,true,true,true,true,true,false,true,true,true,false,false,false,false,false,false,false,false,false,false,false,false,false,false,false,false,false,false,false,false,false,false,false,false,false,false,false,false,false,false,false,false,false,false,false,false,false,false,false]
abbrev bm131_ : Array Bool := #[true,true,true,true,true,true,true,true,true,true,true,true,false,true,true,true,true,false,false,false,false,false,false,false,false,false,false,false,false,false,false,false,false,false,false,false,false,false,false,false,false,false,false,false,false,false,false,false,false,false,false,false,false,false,false]
abbrev bm132_ : Array Bool := #[true,true,true,true,true,true,true,true,true,true,true,true,false,true,true,true,true,true,false,false,false,false,false,false,false,false,false,false,false,false,false,false,false,false,false,false,false,false,false,false,false,false,false,false,false,false,false,false,false,false,false,false,false,false,false]
abbrev bm133_ : Array Bool := #[true,true,true,true,true,true,true,true,true,true,true,true,true,true,true,true,true,true,true,true,true,true,true,true,true,true,true,false,false,true,false,false,false,false,false,false,false,false,false,false,false,false,false,false,false,false,false,false,false,false,false,false,false,false,false]
abbrev bm134_ : Array Bool := #[true,true,true,true,true,true,true,true,true,true,true,true,true,true,true,true,true,true,true,true,true,true,true,true,true,true,true,false,false,true,false,true,false,false,false,false,false,false,false,false,false,false,false,false,false,false,false,false,false,false,false,false,false,false,false]
abbrev bm135_ : Array Bool := #[true,true,true,true,true,true,true,true,true,true,true,true,true,true,true,true,true,true,true,true,true,true,true,true,true,true,true,false,false,true,false,true,true,false,false,false,false,false,false,false,false,false,false,false,false,false,false,false,false,false,false,false,false,false,false]
abbrev bm136_ : Array Bool := #[true,true,true,true,true,true,true,true,true,true,true,true,true,true,true,true,true,true,true,true,true,true,true,true,true,true,true,false,false,true,false,true,true,true,false,false,false,false,false,false,false,false,false,false,false,false,false,false,false,false,false,false,false,false,false]
abbrev bm137_ : Array Bool := #[true,true,true,true,true,true,true,true,true,true,true,true,true,true,true,true,true,true,true,true,true,true,true,true,true,true,true,false,false,true,false,true,true,true,true,false,false,false,false,false,false,false,false,false,false,false,false,false,false,false,false,false,false,false,false]
abbrev bm138_ : Array Bool := #[true,true,true,true,true,true,true,true,true,true,true,true,true,true,true,true,true,true,true,true,true,true,true,true,true,true,true,false,false,true,false,true,true,true,true,true,false,false,false,false,false,false,false,false,false,false,false,false,false,false,false,false,false,false,false]
abbrev bm139_ : Array Bool := #[true,true,true,true,true,true,true,true,true,true,true,true,true,true,true,true,true,true,true,true,true,true,true,true,true,true,true,true,false,true,false,true,true,true,true,true,false,false,false,false,false,false,false,false,false,false,false,false,false,false,false,false,false,false,false]
abbrev bm140_ : Array Bool := #[true,true,true,true,true,true,true,true,true,true,true,true,true,true,true,true,true,true,true,true,true,true,true,true,true,true,true,true,false,true,true,true,true,true,true,true,false,false,false,false,false,false,false,false,false,false,false,false,false,false,false,false,false,false,false]
abbrev bm141_ : Array Bool := #[true,true,true,true,true,true,true,true,true,true,true,true,true,true,true,true,true,true,true,true,true,true,true,true,true,true,true,true,false,true,true,true,true,true,true,true,true,false,false,false,false,false,false,false,false,false,false,false,false,false,false,false,false,false,false]
abbrev bm142_ : Array Bool := #[true,true,true,true,true,true,true,true,true,true,true,true,true,true,true,true,true,true,true,true,true,true,true,true,true,true,true,true,false,true,true,true,true,true,true,true,true,true,false,false,false,false,false,false,false,false,false,false,false,false,false,false,false,false,false]
abbrev bm143_ : Array Bool := #[true,true,true,true,true,true,true,true,true,true,true,true,true,true,true,true,true,true,true,true,true,true,true,true,true,true,true,true,false,true,true,true,true,true,true,true,true,true,true,false,false,false,false,false,false,false,false,false,false,false,false,false,false,false,false]
mutual
def spec_validLine.j0 : Nat → List (S75) → Int → Bool → Int → Int → Int → Int → Option (Bool)
 | 0,_,_,_,_,_,_,_=>none
 | k + 1,x1,x2,x22,x4000,x4001,x4002,x4003=>if x22 = true then (some false) else (if x2 = 0 then (if x4000 = 0 then (if x2 > 0 then (if 0 ≤ (wrap64 (x2 - 1)) then (if (wrap64 (x2 - 1)) < (x1.length : Int) then (if x4000 > (wrap64 (((rd_T75 x1 (wrap64 (x2 - 1))).f0) + 1)) then (spec_validLine.j1 k x1 x2 true x4000 x4001 x4002 x4003) else ((spec_opens.f ((rd_T75 x1 (wrap64 (x2 - 1))).f1)).bind fun t8=>(if (t8 != (x4000 == (wrap64 (((rd_T75 x1 (wrap64 (x2 - 1))).f0) + 1)))) = true then (spec_validLine.j1 k x1 x2 true x4000 x4001 x4002 x4003) else (if (wrap64 (x2 + 1)) = (x1.length : Int) then ((spec_opens.f x4001).bind fun t10=>(spec_validLine.j1 k x1 x2 t10 x4000 x4001 x4002 x4003)) else (spec_validLine.j1 k x1 x2 false x4000 x4001 x4002 x4003))))) else (none)) else (none)) else (if (wrap64 (x2 + 1)) = (x1.length : Int) then ((spec_opens.f x4001).bind fun t11=>(spec_validLine.j1 k x1 x2 t11 x4000 x4001 x4002 x4003)) else (spec_validLine.j1 k x1 x2 false x4000 x4001 x4002 x4003))) else (spec_validLine.j1 k x1 x2 true x4000 x4001 x4002 x4003)) else (if x2 > 0 then (if 0 ≤ (wrap64 (x2 - 1)) then (if (wrap64 (x2 - 1)) < (x1.length : Int) then (if x4000 > (wrap64 (((rd_T75 x1 (wrap64 (x2 - 1))).f0) + 1)) then (spec_validLine.j1 k x1 x2 true x4000 x4001 x4002 x4003) else ((spec_opens.f ((rd_T75 x1 (wrap64 (x2 - 1))).f1)).bind fun t14=>(if (t14 != (x4000 == (wrap64 (((rd_T75 x1 (wrap64 (x2 - 1))).f0) + 1)))) = true then (spec_validLine.j1 k x1 x2 true x4000 x4001 x4002 x4003) else (if (wrap64 (x2 + 1)) = (x1.length : Int) then ((spec_opens.f x4001).bind fun t16=>(spec_validLine.j1 k x1 x2 t16 x4000 x4001 x4002 x4003)) else (spec_validLine.j1 k x1 x2 false x4000 x4001 x4002 x4003))))) else (none)) else (none)) else (if (wrap64 (x2 + 1)) = (x1.length : Int) then ((spec_opens.f x4001).bind fun t17=>(spec_validLine.j1 k x1 x2 t17 x4000 x4001 x4002 x4003)) else (spec_validLine.j1 k x1 x2 false x4000 x4001 x4002 x4003))))
def spec_validLine.j1 : Nat → List (S75) → Int → Bool → Int → Int → Int → Int → Option (Bool)
 | 0,_,_,_,_,_,_,_=>none
 | k + 1,x1,x2,x77,x4000,x4001,x4002,x4003=>if x77 = true then (some false) else (if x4001 = 7 then ((spec_validChain.f k x1 x2).bind fun t18=>(if t18 = true then (if x4001 = 5 then ((spec_inLoop.f k x1 x2).bind fun t19=>(spec_validLine.j2 k x1 x2 (!t19) x4000 x4001 x4002 x4003)) else (if x4001 = 6 then ((spec_inLoop.f k x1 x2).bind fun t20=>(spec_validLine.j2 k x1 x2 (!t20) x4000 x4001 x4002 x4003)) else (spec_validLine.j2 k x1 x2 false x4000 x4001 x4002 x4003))) else (spec_validLine.j2 k x1 x2 true x4000 x4001 x4002 x4003))) else (if x4001 = 5 then ((spec_inLoop.f k x1 x2).bind fun t21=>(spec_validLine.j2 k x1 x2 (!t21) x4000 x4001 x4002 x4003)) else (if x4001 = 6 then ((spec_inLoop.f k x1 x2).bind fun t22=>(spec_validLine.j2 k x1 x2 (!t22) x4000 x4001 x4002 x4003)) else (spec_validLine.j2 k x1 x2 false x4000 x4001 x4002 x4003))))
def spec_validLine.j2 : Nat → List (S75) → Int → Bool → Int → Int → Int → Int → Option (Bool)
 | 0,_,_,_,_,_,_,_=>none
 | k + 1,x1,x2,x102,x4000,x4001,x4002,x4003=>if x102 = true then (some false) else ((spec_follows.f x4001).bind fun t23=>(if t23 = true then ((spec_headOf.f k x1 x2).bind fun t24=>(if t24 ≥ 0 then (if 0 ≤ t24 then (if t24 < (x1.length : Int) then (if ((rd_T75 x1 t24).f1) = 7 then (some true) else ((spec_follows.f ((rd_T75 x1 t24).f1)).bind fun t27=>(some t27))) else (none)) else (none)) else (some false))) else (some true)))
end
def spec_validLine.f (k : Nat) (l0_0 : List (S125)) (l1 : List (S75)) (a2 : Int) : Option (Bool):=if 0 ≤ a2 then (if a2 < (l1.length : Int) then ((spec_validNumbers.f k l0_0 ((rd_T75 l1 a2).f0) ((rd_T75 l1 a2).f1) ((rd_T75 l1 a2).f2) ((rd_T75 l1 a2).f3)).bind fun t4=>(if t4 = true then ((spec_inRange.f ((rd_T75 l1 a2).f0) 0 5).bind fun t5=>(spec_validLine.j0 k l1 a2 (!t5) ((rd_T75 l1 a2).f0) ((rd_T75 l1 a2).f1) ((rd_T75 l1 a2).f2) ((rd_T75 l1 a2).f3))) else (spec_validLine.j0 k l1 a2 true ((rd_T75 l1 a2).f0) ((rd_T75 l1 a2).f1) ((rd_T75 l1 a2).f2) ((rd_T75 l1 a2).f3)))) else (none)) else (none)
theorem spec_validLine.mono_l : ∀ k,(∀ y0 y1 y2 y3 y4 y5 y6,LeO (spec_validLine.j0 k y0 y1 y2 y3 y4 y5 y6) (spec_validLine.j0 (k + 1) y0 y1 y2 y3 y4 y5 y6)) ∧ (∀ y0 y1 y2 y3 y4 y5 y6,LeO (spec_validLine.j1 k y0 y1 y2 y3 y4 y5 y6) (spec_validLine.j1 (k + 1) y0 y1 y2 y3 y4 y5 y6)) ∧ (∀ y0 y1 y2 y3 y4 y5 y6,LeO (spec_validLine.j2 k y0 y1 y2 y3 y4 y5 y6) (spec_validLine.j2 (k + 1) y0 y1 y2 y3 y4 y5 y6))
 | 0=>⟨fun _ _ _ _ _ _ _ r h=>by simp [spec_validLine.j0] at h,fun _ _ _ _ _ _ _ r h=>by simp [spec_validLine.j1] at h,fun _ _ _ _ _ _ _ r h=>by simp [spec_validLine.j2] at h⟩
 | k + 1=>by
  obtain ⟨ih0,ih1,ih2⟩:=spec_validLine.mono_l k
  refine ⟨?_,?_,?_⟩
  ·intro y0 y1 y2 y3 y4 y5 y6
   unfold spec_validLine.j0
   repeat' first
   | (with_reducible exact ih0 _ _ _ _ _ _ _)
   | (with_reducible exact ih1 _ _ _ _ _ _ _)
   | (with_reducible exact ih2 _ _ _ _ _ _ _)
   | (with_reducible exact spec_headOf.mono _ _ _)
   | (with_reducible exact spec_inLoop.mono _ _ _)
   | (with_reducible exact spec_validChain.mono _ _ _)
   | (with_reducible exact spec_validNumbers.mono _ _ _ _ _ _)
   | (with_reducible exact LeO.refl _)
   | (with_reducible exact LeO.none _)
   | (with_reducible refine LeO.ite ?_ ?_)
   | (with_reducible refine LeO.bind ?_ (fun _=>?_))
  ·intro y0 y1 y2 y3 y4 y5 y6
   unfold spec_validLine.j1
   repeat' first
   | (with_reducible exact ih0 _ _ _ _ _ _ _)
   | (with_reducible exact ih1 _ _ _ _ _ _ _)
   | (with_reducible exact ih2 _ _ _ _ _ _ _)
   | (with_reducible exact spec_headOf.mono _ _ _)
   | (with_reducible exact spec_inLoop.mono _ _ _)
   | (with_reducible exact spec_validChain.mono _ _ _)
   | (with_reducible exact spec_validNumbers.mono _ _ _ _ _ _)
   | (with_reducible exact LeO.refl _)
   | (with_reducible exact LeO.none _)
   | (with_reducible refine LeO.ite ?_ ?_)
   | (with_reducible refine LeO.bind ?_ (fun _=>?_))
  ·intro y0 y1 y2 y3 y4 y5 y6
   unfold spec_validLine.j2
   repeat' first
   | (with_reducible exact ih0 _ _ _ _ _ _ _)
   | (with_reducible exact ih1 _ _ _ _ _ _ _)
   | (with_reducible exact ih2 _ _ _ _ _ _ _)
   | (with_reducible exact spec_headOf.mono _ _ _)
   | (with_reducible exact spec_inLoop.mono _ _ _)
   | (with_reducible exact spec_validChain.mono _ _ _)
   | (with_reducible exact spec_validNumbers.mono _ _ _ _ _ _)
   | (with_reducible exact LeO.refl _)
   | (with_reducible exact LeO.none _)
   | (with_reducible refine LeO.ite ?_ ?_)
   | (with_reducible refine LeO.bind ?_ (fun _=>?_))
theorem spec_validLine.mono : ∀ a0 a1 a2 k,LeO (spec_validLine.f k a0 a1 a2) (spec_validLine.f (k + 1) a0 a1 a2):=by
 intro a0 a1 a2 k
 obtain ⟨ih0,ih1,ih2⟩:=spec_validLine.mono_l k
 unfold spec_validLine.f
 repeat' first
   | (with_reducible exact ih0 _ _ _ _ _ _ _)
   | (with_reducible exact ih1 _ _ _ _ _ _ _)
   | (with_reducible exact ih2 _ _ _ _ _ _ _)
   | (with_reducible exact spec_headOf.mono _ _ _)
   | (with_reducible exact spec_inLoop.mono _ _ _)
   | (with_reducible exact spec_validChain.mono _ _ _)
   | (with_reducible exact spec_validNumbers.mono _ _ _ _ _ _)
   | (with_reducible exact LeO.refl _)
   | (with_reducible exact LeO.none _)
   | (with_reducible refine LeO.ite ?_ ?_)
   | (with_reducible refine LeO.bind ?_ (fun _=>?_))
def spec_validLine.T4 : Bool × List (List Nat × List Nat):=(true,[([],[]),([0],[0]),([1],[1]),([2],[2]),([3,2],[2,3]),([4,2],[2,4]),([2,5],[2,5]),([6,2],[6]),([7],[7]),([8,7],[7,8]),([9,7,7],[7,9]),([10],[10]),([11,10],[10,11]),([10],[10]),([10],[10]),([14,10],[10,14]),([13,15,10],[10,13,15]),([16,10],[10,16]),([17,10],[10,17]),([18,10],[10,18]),([12,19,10],[10,12,19]),([20,10,10],[10,20]),([21],[21]),([21],[21]),([23,21],[21,23]),([22,24,21],[21,22,24]),([25,21],[21,25]),([26,21],[21,26]),([27,21,21],[21,27]),([21],[21]),([29,21],[21,29]),([21],[21]),([21],[21]),([32,21],[21,32]),([31,33,21],[21,31,33]),([34,21],[21,34]),([35,21],[21,35]),([36,21],[21,36]),([30,37,21],[21,30,37]),([28,38,21],[21,28,38]),([21,39,10],[10,21,39]),([10,40,7],[7,10,40]),([7,41],[7,41]),([42,28],[42]),([43],[43]),([44,43],[43,44]),([43],[43]),([46,43],[43,46]),([45,47,43],[43,45,47]),([48,43,43],[43,48]),([49],[49]),([50,49],[49,50]),([51,49,49],[49,51]),([49,52,43],[43,49,52]),([43,53],[43,53])])
def spec_validLine.B4 : List Nat:=[0,1,3,7,15,31,63,127,255,511,1023,2047,4095,2047,2047,18431,59391,124927,255999,518143,1048575,2097151,4194303,4194303,12582911,33554431,67108863,134217727,268435455,4194303,541065215,4194303,4194303,4299161599,15036579839,32216449023,66576187391,135295664127,274345230335,549755813887,1099511627775,2199023255551,4398046511103,8796093022207,17592186044415,35184372088831,17592186044415,87960930222079,281474976710655,562949953421311,1125899906842623,2251799813685247,4503599627370495,9007199254740991,18014398509481983]
theorem spec_validLine.tab4 : rtab .any (opsOf Try.f139 4) = spec_validLine.T4:=by kernel_rfl
theorem spec_validLine.bits4 : waitsOk spec_validLine.T4.2 spec_validLine.B4 = true:=by kernel_rfl
set_option maxHeartbeats 8000000 in
set_option maxRecDepth 100000 in
theorem spec_validLine.calls (k : Nat) (A0_0 : Option Addr) (c0_0 : Nat) (l0_0 : List (S125)) (A1 : Option Addr) (c1 : Nat) (l1 : List (S75)) (a2 : Int) (r : Bool) (w : World) (hr0_0 : Kd.C k125 w A0_0 l0_0.length l0_0) (hc0_0 : l0_0.length ≤ c0_0) (hr1 : Kd.C k75 w A1 l1.length l1) (hc1 : l1.length ≤ c1) (h : spec_validLine.f k l0_0 l1 a2 = some r) :
  Calls Try.prog 139 #[.agg #[.slice A0_0 l0_0.length c0_0],.slice A1 l1.length c1,.int .i64 a2] w fun e w'=>e = .returned (.bool r) ∧ Below w.heap.size w w':=by
 have hu25:=Try.underlying25;have hu75:=Try.underlying75;have HR0_0:=a0_ hr0_0;have HC0_0:=a0_ hc0_0;clear hr0_0 hc0_0;have HR1:=a0_ hr1;have HC1:=a0_ hc1;clear hr1 hc1;have HB:=a0_ (Below.refl w.heap.size w);have H : (if 0 ≤ a2 then (if a2 < (l1.length : Int) then ((spec_validNumbers.f k l0_0 ((rd_T75 l1 a2).f0) ((rd_T75 l1 a2).f1) ((rd_T75 l1 a2).f2) ((rd_T75 l1 a2).f3)).bind fun t4=>(if t4 = true then ((spec_inRange.f ((rd_T75 l1 a2).f0) 0 5).bind fun t5=>(spec_validLine.j0 k l1 a2 (!t5) ((rd_T75 l1 a2).f0) ((rd_T75 l1 a2).f1) ((rd_T75 l1 a2).f2) ((rd_T75 l1 a2).f3))) else (spec_validLine.j0 k l1 a2 true ((rd_T75 l1 a2).f0) ((rd_T75 l1 a2).f1) ((rd_T75 l1 a2).f2) ((rd_T75 l1 a2).f3)))) else (none)) else (none)) = some r:=h;clear h;by_cases c4 : 0 ≤ a2
 ·rw [if_pos c4] at H
  have c4b0 : decide (0 ≤ a2) = true:=decide_eq_true c4;clear c4;by_cases c5 : a2 < (l1.length : Int)
  ·rw [if_pos c5] at H
   have c5b0 : decide (a2 < (l1.length : Int)) = true:=decide_eq_true c5;clear c5;have HC6:=a0_ H;clear H;go_enter Try.func139,Try.ntmps139;go_upto_region 2 with (first | ((with_reducible refine gate_dst (N:=3) rfl ?_);(try (refine gate_guard (by rfl) ?_;dsimp only));refine box_event ?hg (N:=3) ?hd (cs:=#[.slice A0_0 l0_0.length c0_0]) (t:=25) ?hr ?_;(case hd=>rfl);(case hg=>rfl);(case hr=>first | (go_simp;done) | (go_simp;rfl));intro gb1 hg w7 hbox hb;have BK1:=a0_ (hbox);have GW1:=a0_ ((by rw [hg];exact (below_size hbw_) : w.heap.size ≤ gb1));have GE1:=a0_ ((by rw [hg];exact (below_size hbw_) : w.heap.size ≤ gb1));replace HB:=a0_ (below_step hbw_ hb);clear hb hbox hg;have p2 : 0 ≤ (a2 : Int):=od_;have q2 : a2 < (l1.length : Int):=od_;obtain ⟨ad2,e2,hx2_0,hx2_1,hx2_2,hx2_3⟩:=at_T75 HR1.1 a2 p2 q2;cases e2;replace hx2_0:=cl_ HB.1 hx2_0;replace hx2_1:=cl_ HB.1 hx2_1;replace hx2_2:=cl_ HB.1 hx2_2;replace hx2_3:=cl_ HB.1 hx2_3;replace p2:=eq_true p2;replace q2:=eq_true q2) | ((with_reducible refine gate_dst (N:=7) rfl ?_);(try (refine gate_guard (by rfl) ?_;dsimp only));refine box_event ?hg (N:=7) ?hd (cs:=#[.int .i64 0,.int .i64 0,.int .i64 0,.int .i64 0]) (t:=75) ?hr ?_;(case hd=>rfl);(case hg=>rfl);(case hr=>first | (go_simp;done) | (go_simp;rfl));intro gb3 hg w8 hbox hb;have n0_:=kb_ BK1 hb;have n1_:=a0_ (below_step hbw_ hb);have n2_:=a0_ (hbox);have n3_:=a0_ ((by rw [hg];exact (below_size hbw_) : w.heap.size ≤ gb3));have n4_:=a0_ ((by rw [hg];exact (below_size hbw_) : w.heap.size ≤ gb3));have n5_:=a0_ ((by rw [hg];exact Nat.ne_of_lt (blk_lt (bb_ BK1.1)) : gb1 ≠ gb3));have n6_:=a0_ ((by rw [hg];exact Nat.ne_of_gt (blk_lt (bb_ BK1.1)) : gb3 ≠ gb1));clear BK1 HB;have BK1:=n0_;have HB:=n1_;have BK3:=n2_;have GW3:=n3_;have GE3:=n4_;have NB1_3:=n5_;have NB3_1:=n6_;clear n0_ n1_ n2_ n3_ n4_ n5_ n6_;clear hb hbox hg;have hnb9:=NB3_1.1;have hnc9:=NB1_3.1;have hcz10_0 : w8.cell? ⟨gb3,0,none⟩ = some (.int .i64 0):=(blk_cell BK3.1 0).trans rfl;have hcz10_1 : w8.cell? ⟨gb3,1,none⟩ = some (.int .i64 0):=(blk_cell BK3.1 1).trans rfl;have hcz10_2 : w8.cell? ⟨gb3,2,none⟩ = some (.int .i64 0):=(blk_cell BK3.1 2).trans rfl;have hcz10_3 : w8.cell? ⟨gb3,3,none⟩ = some (.int .i64 0):=(blk_cell BK3.1 3).trans rfl;have hfz10_0:=blk_frozen BK3.1 0;have hfz10_1:=blk_frozen BK3.1 1;have hfz10_2:=blk_frozen BK3.1 2;have hfz10_3:=blk_frozen BK3.1 3));(try simp only [Act.put,s1_,s2_,s3_]);go_cut [22] (fun v22 wc=>∃ (kq : Nat) (x22_5 : Bool),v22 = .bool x22_5 ∧ Aside0 (spec_validLine.j0 kq l1 a2 x22_5 ((rd_T75 l1 a2).f0) ((rd_T75 l1 a2).f1) ((rd_T75 l1 a2).f2) ((rd_T75 l1 a2).f3) = some r) ∧ Aside0 (kq ≤ k) ∧ Aside0 (wc.heap[gb1]? = some (.cells #[(.slice A0_0 l0_0.length c0_0)] 25 (0,0))) ∧ Aside0 (wc.heap[gb3]? = some (.cells #[.int .i64 ((rd_T75 l1 a2).f0),.int .i64 ((rd_T75 l1 a2).f1),.int .i64 ((rd_T75 l1 a2).f2),.int .i64 ((rd_T75 l1 a2).f3)] 75 (0,0))) ∧ Aside0 (Below w.heap.size w wc))
   case first =>
    have H:=HC6.1;clear HC6;replace H:=Option.bind_eq_some_iff.mp H;obtain ⟨t4,A110,H⟩:=H;(try dsimp only at H);have A11:=a0_ A110;clear A110;by_cases c12 : t4 = true
    ·subst c12
     have H1 : ((spec_inRange.f ((rd_T75 l1 a2).f0) 0 5).bind fun t5=>(spec_validLine.j0 k l1 a2 (!t5) ((rd_T75 l1 a2).f0) ((rd_T75 l1 a2).f1) ((rd_T75 l1 a2).f2) ((rd_T75 l1 a2).f3))) = some r:=by rw [if_pos rfl] at H;exact H
     clear H;have H:=H1;clear H1;replace H:=Option.bind_eq_some_iff.mp H;obtain ⟨t5,A130,H⟩:=H;(try dsimp only at H);have A13:=a0_ A130;clear A130;have H':=a0_ H;clear H;have hnb14:=NB1_3.1;have hnc14:=NB3_1.1;have hcz15_0 : w8.cell? ⟨gb1,0,none⟩ = some (.slice A0_0 l0_0.length c0_0):=(blk_cell BK1.1 0).trans rfl;have hfz15_0:=blk_frozen BK1.1 0;have hcz16_0 : w8.cell? ⟨gb3,0,none⟩ = some (.int .i64 0):=(blk_cell BK3.1 0).trans rfl;have hcz16_1 : w8.cell? ⟨gb3,1,none⟩ = some (.int .i64 0):=(blk_cell BK3.1 1).trans rfl;have hcz16_2 : w8.cell? ⟨gb3,2,none⟩ = some (.int .i64 0):=(blk_cell BK3.1 2).trans rfl;have hcz16_3 : w8.cell? ⟨gb3,3,none⟩ = some (.int .i64 0):=(blk_cell BK3.1 3).trans rfl;have hfz16_0:=blk_frozen BK3.1 0;have hfz16_1:=blk_frozen BK3.1 1;have hfz16_2:=blk_frozen BK3.1 2;have hfz16_3:=blk_frozen BK3.1 3;go_wp2_with (first | ((with_reducible refine gate_callee (f:=157) rfl ?_);refine goesL_ (some 15) rfl rfl Try.func157 (by kernel_rfl) rfl #[.agg #[.slice A0_0 l0_0.length c0_0],.agg #[.int .i64 ((rd_T75 l1 a2).f0),.int .i64 ((rd_T75 l1 a2).f1),.int .i64 ((rd_T75 l1 a2).f2),.int .i64 ((rd_T75 l1 a2).f3)]] rfl lm_ ?_;(with_reducible refine (spec_validNumbers.calls k _ _ l0_0 ((rd_T75 l1 a2).f0) ((rd_T75 l1 a2).f1) ((rd_T75 l1 a2).f2) ((rd_T75 l1 a2).f3) true _ ?side1 ?side2 A11.1).mono ?_);(case side1=>exact C_below HR0_0.1 hbw_);(case side2=>exact HC0_0.1);rintro e w17 ⟨rfl,hb⟩;refine ⟨_,rfl,?_⟩;replace BK1:=a0_ (blk_below (g:=gb1) (o:=.cells #[.slice A0_0 l0_0.length c0_0] 25 (0,0)) (bff_ BK1.1) hb);replace BK3:=a0_ (blk_below (g:=gb3) (o:=.cells #[.int .i64 ((rd_T75 l1 a2).f0),.int .i64 ((rd_T75 l1 a2).f1),.int .i64 ((rd_T75 l1 a2).f2),.int .i64 ((rd_T75 l1 a2).f3)] 75 (0,0)) (by (with_reducible repeat (first | refine blk_drewN ?_ _ | refine blk_drew ?_ | refine blk_alloc ?_ _));refine blk_put (cs:=#[.int .i64 ((rd_T75 l1 a2).f0),.int .i64 ((rd_T75 l1 a2).f1),.int .i64 ((rd_T75 l1 a2).f2),.int .i64 0]) ?_ 3 _ rfl;(with_reducible repeat (first | refine blk_drewN ?_ _ | refine blk_drew ?_ | refine blk_alloc ?_ _));refine blk_put (cs:=#[.int .i64 ((rd_T75 l1 a2).f0),.int .i64 ((rd_T75 l1 a2).f1),.int .i64 0,.int .i64 0]) ?_ 2 _ rfl;(with_reducible repeat (first | refine blk_drewN ?_ _ | refine blk_drew ?_ | refine blk_alloc ?_ _));refine blk_put (cs:=#[.int .i64 ((rd_T75 l1 a2).f0),.int .i64 0,.int .i64 0,.int .i64 0]) ?_ 1 _ rfl;(with_reducible repeat (first | refine blk_drewN ?_ _ | refine blk_drew ?_ | refine blk_alloc ?_ _));refine blk_put (cs:=#[.int .i64 0,.int .i64 0,.int .i64 0,.int .i64 0]) ?_ 0 _ rfl;(with_reducible repeat (first | refine blk_drewN ?_ _ | refine blk_drew ?_ | refine blk_alloc ?_ _));exact BK3.1) hb);replace HB:=a0_ (below_step hbw_ hb);(try clear hb);have hcz18_0 : w17.cell? ⟨gb3,0,none⟩ = some (.int .i64 ((rd_T75 l1 a2).f0)):=(blk_cell BK3.1 0).trans rfl;have hcz18_1 : w17.cell? ⟨gb3,1,none⟩ = some (.int .i64 ((rd_T75 l1 a2).f1)):=(blk_cell BK3.1 1).trans rfl;have hcz18_2 : w17.cell? ⟨gb3,2,none⟩ = some (.int .i64 ((rd_T75 l1 a2).f2)):=(blk_cell BK3.1 2).trans rfl;have hcz18_3 : w17.cell? ⟨gb3,3,none⟩ = some (.int .i64 ((rd_T75 l1 a2).f3)):=(blk_cell BK3.1 3).trans rfl;have hfz18_0:=blk_frozen BK3.1 0;have hfz18_1:=blk_frozen BK3.1 1;have hfz18_2:=blk_frozen BK3.1 2;have hfz18_3:=blk_frozen BK3.1 3) | (go_at_call 70;(with_reducible refine (spec_inRange.calls ((rd_T75 l1 a2).f0) 0 5 t5 _ A13.1).mono ?_);rintro e w' ⟨rfl,⟨nd,rfl⟩⟩));go_meet
     case rel=>exact ⟨_,(!t5),(by first | rfl | (simp;done) | (simp [*];done)),H',⟨by first | omega | exact Nat.le_refl _⟩,⟨by (with_reducible repeat (first | refine blk_drewN ?_ _ | refine blk_drew ?_ | refine blk_alloc ?_ _));exact BK1.1⟩,⟨by (with_reducible repeat (first | refine blk_drewN ?_ _ | refine blk_drew ?_ | refine blk_alloc ?_ _));exact BK3.1⟩,⟨hbw_⟩⟩
    ·replace c12:=Bool.eq_false_iff.mpr c12
     subst c12
     have H1 : (spec_validLine.j0 k l1 a2 true ((rd_T75 l1 a2).f0) ((rd_T75 l1 a2).f1) ((rd_T75 l1 a2).f2) ((rd_T75 l1 a2).f3)) = some r:=by rw [if_neg (show ¬ (false = true) by decide)] at H;exact H
     clear H;have H:=H1;clear H1;have H':=a0_ H;clear H;have hnb19:=NB1_3.1;have hnc19:=NB3_1.1;have hcz20_0 : w8.cell? ⟨gb1,0,none⟩ = some (.slice A0_0 l0_0.length c0_0):=(blk_cell BK1.1 0).trans rfl;have hfz20_0:=blk_frozen BK1.1 0;have hcz21_0 : w8.cell? ⟨gb3,0,none⟩ = some (.int .i64 0):=(blk_cell BK3.1 0).trans rfl;have hcz21_1 : w8.cell? ⟨gb3,1,none⟩ = some (.int .i64 0):=(blk_cell BK3.1 1).trans rfl;have hcz21_2 : w8.cell? ⟨gb3,2,none⟩ = some (.int .i64 0):=(blk_cell BK3.1 2).trans rfl;have hcz21_3 : w8.cell? ⟨gb3,3,none⟩ = some (.int .i64 0):=(blk_cell BK3.1 3).trans rfl;have hfz21_0:=blk_frozen BK3.1 0;have hfz21_1:=blk_frozen BK3.1 1;have hfz21_2:=blk_frozen BK3.1 2;have hfz21_3:=blk_frozen BK3.1 3;go_wp2_with (first | ((with_reducible refine gate_callee (f:=157) rfl ?_);refine goesL_ (some 15) rfl rfl Try.func157 (by kernel_rfl) rfl #[.agg #[.slice A0_0 l0_0.length c0_0],.agg #[.int .i64 ((rd_T75 l1 a2).f0),.int .i64 ((rd_T75 l1 a2).f1),.int .i64 ((rd_T75 l1 a2).f2),.int .i64 ((rd_T75 l1 a2).f3)]] rfl lm_ ?_;(with_reducible refine (spec_validNumbers.calls k _ _ l0_0 ((rd_T75 l1 a2).f0) ((rd_T75 l1 a2).f1) ((rd_T75 l1 a2).f2) ((rd_T75 l1 a2).f3) false _ ?side1 ?side2 A11.1).mono ?_);(case side1=>exact C_below HR0_0.1 hbw_);(case side2=>exact HC0_0.1);rintro e w22 ⟨rfl,hb⟩;refine ⟨_,rfl,?_⟩;replace BK1:=a0_ (blk_below (g:=gb1) (o:=.cells #[.slice A0_0 l0_0.length c0_0] 25 (0,0)) (bff_ BK1.1) hb);replace BK3:=a0_ (blk_below (g:=gb3) (o:=.cells #[.int .i64 ((rd_T75 l1 a2).f0),.int .i64 ((rd_T75 l1 a2).f1),.int .i64 ((rd_T75 l1 a2).f2),.int .i64 ((rd_T75 l1 a2).f3)] 75 (0,0)) (by (with_reducible repeat (first | refine blk_drewN ?_ _ | refine blk_drew ?_ | refine blk_alloc ?_ _));refine blk_put (cs:=#[.int .i64 ((rd_T75 l1 a2).f0),.int .i64 ((rd_T75 l1 a2).f1),.int .i64 ((rd_T75 l1 a2).f2),.int .i64 0]) ?_ 3 _ rfl;(with_reducible repeat (first | refine blk_drewN ?_ _ | refine blk_drew ?_ | refine blk_alloc ?_ _));refine blk_put (cs:=#[.int .i64 ((rd_T75 l1 a2).f0),.int .i64 ((rd_T75 l1 a2).f1),.int .i64 0,.int .i64 0]) ?_ 2 _ rfl;(with_reducible repeat (first | refine blk_drewN ?_ _ | refine blk_drew ?_ | refine blk_alloc ?_ _));refine blk_put (cs:=#[.int .i64 ((rd_T75 l1 a2).f0),.int .i64 0,.int .i64 0,.int .i64 0]) ?_ 1 _ rfl;(with_reducible repeat (first | refine blk_drewN ?_ _ | refine blk_drew ?_ | refine blk_alloc ?_ _));refine blk_put (cs:=#[.int .i64 0,.int .i64 0,.int .i64 0,.int .i64 0]) ?_ 0 _ rfl;(with_reducible repeat (first | refine blk_drewN ?_ _ | refine blk_drew ?_ | refine blk_alloc ?_ _));exact BK3.1) hb);replace HB:=a0_ (below_step hbw_ hb);(try clear hb);(try clear hb2);(try clear hk);(try clear hi)));go_meet
     case rel=>exact ⟨_,(true),(by first | rfl | (simp;done) | (simp [*];done)),H',⟨by first | omega | exact Nat.le_refl _⟩,⟨by (with_reducible repeat (first | refine blk_drewN ?_ _ | refine blk_drew ?_ | refine blk_alloc ?_ _));exact BK1.1⟩,⟨by (with_reducible repeat (first | refine blk_drewN ?_ _ | refine blk_drew ?_ | refine blk_alloc ?_ _));exact BK3.1⟩,⟨hbw_⟩⟩
   case rest =>
    clear HC6;(try clear c1);(try clear p2);(try clear q2);(try clear hx2);(try clear c4);(try clear c5);(try clear c5b0);(try clear c9);(try clear c12);(try clear c13);(try clear c14);(try clear c15);(try clear c19);(try clear hcz10_0);(try clear hcz10_1);(try clear hcz10_2);(try clear hcz10_3);(try clear hcz15_0);(try clear hcz16_0);(try clear hcz16_1);(try clear hcz16_2);(try clear hcz16_3);(try clear hcz18_0);(try clear hcz18_1);(try clear hcz18_2);(try clear hcz18_3);(try clear hcz20_0);(try clear hcz21_0);(try clear hcz21_1);(try clear hcz21_2);(try clear hcz21_3);(try clear hfz10_0);(try clear hfz10_1);(try clear hfz10_2);(try clear hfz10_3);(try clear hfz15_0);(try clear hfz16_0);(try clear hfz16_1);(try clear hfz16_2);(try clear hfz16_3);(try clear hfz18_0);(try clear hfz18_1);(try clear hfz18_2);(try clear hfz18_3);(try clear hfz20_0);(try clear hfz21_0);(try clear hfz21_1);(try clear hfz21_2);(try clear hfz21_3);(try clear hx2_0);(try clear hx2_1);(try clear hx2_2);(try clear hx2_3);(try clear p2);(try clear q2);obtain ⟨kq,x22_5,rfl,HA,HJ5,BK1,BK3,HB⟩:=hcut
    cases kq with
    | zero=>exact absurd HA.out (by simp [spec_validLine.j0])
    | succ kj5 =>
     have H:=HA.out;clear HA;simp only [spec_validLine.j0] at H;by_cases c23 : x22_5 = true
     ·subst c23
      have H1 : (some false) = some r:=by rw [if_pos rfl] at H;exact H
      clear H;have H:=H1;clear H1;obtain rfl:=Option.some.inj H;go_wp2;go_ret;exact ⟨by first | rfl | (simp [errW_none,errW_some] <;> rfl) | (simp [*,errW_none,errW_some] <;> rfl),hbw_⟩
     ·replace c23:=Bool.eq_false_iff.mpr c23
      subst c23
      have H1 : (if a2 = 0 then (if ((rd_T75 l1 a2).f0) = 0 then (if a2 > 0 then (if 0 ≤ (wrap64 (a2 - 1)) then (if (wrap64 (a2 - 1)) < (l1.length : Int) then (if ((rd_T75 l1 a2).f0) > (wrap64 (((rd_T75 l1 (wrap64 (a2 - 1))).f0) + 1)) then (spec_validLine.j1 kj5 l1 a2 true ((rd_T75 l1 a2).f0) ((rd_T75 l1 a2).f1) ((rd_T75 l1 a2).f2) ((rd_T75 l1 a2).f3)) else ((spec_opens.f ((rd_T75 l1 (wrap64 (a2 - 1))).f1)).bind fun t8=>(if (t8 != (((rd_T75 l1 a2).f0) == (wrap64 (((rd_T75 l1 (wrap64 (a2 - 1))).f0) + 1)))) = true then (spec_validLine.j1 kj5 l1 a2 true ((rd_T75 l1 a2).f0) ((rd_T75 l1 a2).f1) ((rd_T75 l1 a2).f2) ((rd_T75 l1 a2).f3)) else (if (wrap64 (a2 + 1)) = (l1.length : Int) then ((spec_opens.f ((rd_T75 l1 a2).f1)).bind fun t10=>(spec_validLine.j1 kj5 l1 a2 t10 ((rd_T75 l1 a2).f0) ((rd_T75 l1 a2).f1) ((rd_T75 l1 a2).f2) ((rd_T75 l1 a2).f3))) else (spec_validLine.j1 kj5 l1 a2 false ((rd_T75 l1 a2).f0) ((rd_T75 l1 a2).f1) ((rd_T75 l1 a2).f2) ((rd_T75 l1 a2).f3)))))) else (none)) else (none)) else (if (wrap64 (a2 + 1)) = (l1.length : Int) then ((spec_opens.f ((rd_T75 l1 a2).f1)).bind fun t11=>(spec_validLine.j1 kj5 l1 a2 t11 ((rd_T75 l1 a2).f0) ((rd_T75 l1 a2).f1) ((rd_T75 l1 a2).f2) ((rd_T75 l1 a2).f3))) else (spec_validLine.j1 kj5 l1 a2 false ((rd_T75 l1 a2).f0) ((rd_T75 l1 a2).f1) ((rd_T75 l1 a2).f2) ((rd_T75 l1 a2).f3)))) else (spec_validLine.j1 kj5 l1 a2 true ((rd_T75 l1 a2).f0) ((rd_T75 l1 a2).f1) ((rd_T75 l1 a2).f2) ((rd_T75 l1 a2).f3))) else (if a2 > 0 then (if 0 ≤ (wrap64 (a2 - 1)) then (if (wrap64 (a2 - 1)) < (l1.length : Int) then (if ((rd_T75 l1 a2).f0) > (wrap64 (((rd_T75 l1 (wrap64 (a2 - 1))).f0) + 1)) then (spec_validLine.j1 kj5 l1 a2 true ((rd_T75 l1 a2).f0) ((rd_T75 l1 a2).f1) ((rd_T75 l1 a2).f2) ((rd_T75 l1 a2).f3)) else ((spec_opens.f ((rd_T75 l1 (wrap64 (a2 - 1))).f1)).bind fun t14=>(if (t14 != (((rd_T75 l1 a2).f0) == (wrap64 (((rd_T75 l1 (wrap64 (a2 - 1))).f0) + 1)))) = true then (spec_validLine.j1 kj5 l1 a2 true ((rd_T75 l1 a2).f0) ((rd_T75 l1 a2).f1) ((rd_T75 l1 a2).f2) ((rd_T75 l1 a2).f3)) else (if (wrap64 (a2 + 1)) = (l1.length : Int) then ((spec_opens.f ((rd_T75 l1 a2).f1)).bind fun t16=>(spec_validLine.j1 kj5 l1 a2 t16 ((rd_T75 l1 a2).f0) ((rd_T75 l1 a2).f1) ((rd_T75 l1 a2).f2) ((rd_T75 l1 a2).f3))) else (spec_validLine.j1 kj5 l1 a2 false ((rd_T75 l1 a2).f0) ((rd_T75 l1 a2).f1) ((rd_T75 l1 a2).f2) ((rd_T75 l1 a2).f3)))))) else (none)) else (none)) else (if (wrap64 (a2 + 1)) = (l1.length : Int) then ((spec_opens.f ((rd_T75 l1 a2).f1)).bind fun t17=>(spec_validLine.j1 kj5 l1 a2 t17 ((rd_T75 l1 a2).f0) ((rd_T75 l1 a2).f1) ((rd_T75 l1 a2).f2) ((rd_T75 l1 a2).f3))) else (spec_validLine.j1 kj5 l1 a2 false ((rd_T75 l1 a2).f0) ((rd_T75 l1 a2).f1) ((rd_T75 l1 a2).f2) ((rd_T75 l1 a2).f3))))) = some r:=by rw [if_neg (show ¬ (false = true) by decide)] at H;exact H
      clear H;have H:=H1;clear H1;have HC24:=a0_ H;clear H;go_upto_region 4 with (fail);go_cut [77] (fun v77 wc=>∃ (kq : Nat) (x77_23 : Bool),v77 = .bool x77_23 ∧ Aside0 (spec_validLine.j1 kq l1 a2 x77_23 ((rd_T75 l1 a2).f0) ((rd_T75 l1 a2).f1) ((rd_T75 l1 a2).f2) ((rd_T75 l1 a2).f3) = some r) ∧ Aside0 (kq ≤ kj5) ∧ Aside0 (wc.heap[gb1]? = some (.cells #[(.slice A0_0 l0_0.length c0_0)] 25 (0,0))) ∧ Aside0 (wc.heap[gb3]? = some (.cells #[.int .i64 ((rd_T75 l1 a2).f0),.int .i64 ((rd_T75 l1 a2).f1),.int .i64 ((rd_T75 l1 a2).f2),.int .i64 ((rd_T75 l1 a2).f3)] 75 (0,0))) ∧ Aside0 (Below w.heap.size w wc))
      case first =>
       have H:=HC24.1;clear HC24;by_cases c25 : a2 = 0
       ·rw [if_pos c25] at H
        have c25b0 : (a2 == 0) = true:=beq_iff_eq.mpr c25;have c25b1 : (a2 != 0) = false:=bne_eq_false_iff_eq.mpr c25;clear c25;(first | rw [c25b0] | (simp only [i64_w,i32_w];rw [c25b0]) | skip);by_cases c26 : ((rd_T75 l1 a2).f0) = 0
        ·rw [if_pos c26] at H
         have c26b0 : (((rd_T75 l1 a2).f0) == 0) = true:=beq_iff_eq.mpr c26;have c26b1 : (((rd_T75 l1 a2).f0) != 0) = false:=bne_eq_false_iff_eq.mpr c26;clear c26;by_cases c27 : a2 > 0
         ·rw [if_pos c27] at H
          exact absurd c27 (by rw [beq_iff_eq.mp c25b0];exact Int.lt_irrefl 0)
         ·rw [if_neg c27] at H
          have c27b0 : decide (0 < a2) = false:=decide_eq_false c27;clear c27;by_cases c40 : (wrap64 (a2 + 1)) = (l1.length : Int)
          ·rw [if_pos c40] at H
           have c40b0 : ((wrap64 (a2 + 1)) == (l1.length : Int)) = true:=beq_iff_eq.mpr c40;have c40b1 : ((wrap64 (a2 + 1)) != (l1.length : Int)) = false:=bne_eq_false_iff_eq.mpr c40;clear c40;replace H:=Option.bind_eq_some_iff.mp H;obtain ⟨t11,A410,H⟩:=H;(try dsimp only at H);have A41:=a0_ A410;clear A410;have H':=a0_ H;clear H;(try go_wp2);have n0_:=a0_ (blk_drew BK1.1);have n1_:=a0_ (blk_drew BK3.1);have n2_:=a0_ (below_drew1 HB.1);clear BK1;clear BK3;clear HB;have BK1:=n0_;have BK3:=n1_;have HB:=n2_;clear n0_ n1_ n2_;refine start_ (n:=55) (S:=fun w'=>w'.cell? ⟨gb3,0,none⟩ = some (.int .i64 ((rd_T75 l1 a2).f0)) ∧ w'.cell? ⟨gb3,1,none⟩ = some (.int .i64 ((rd_T75 l1 a2).f1)) ∧ w'.cell? ⟨gb3,2,none⟩ = some (.int .i64 ((rd_T75 l1 a2).f2)) ∧ w'.cell? ⟨gb3,3,none⟩ = some (.int .i64 ((rd_T75 l1 a2).f3))) (ds:=[]) bm72_ (by kernel_rfl) rfl rfl ⟨(blk_cell BK3.1 0).trans rfl,(blk_cell BK3.1 1).trans rfl,(blk_cell BK3.1 2).trans rfl,(blk_cell BK3.1 3).trans rfl⟩ (fun hHeld=>?_);refine with_tabW spec_validLine.tab4 spec_validLine.bits4 (fun HT_ HW_=>?_);generalize wc.drew = w42 at BK1 BK3 HB hHeld ⊢;refine pu_ 0 (some 23) ?_ bm73_ rfl rfl HT_.1 (Or.inl ⟨by rfl,?_⟩) ?_ ?_ ?_;rotate_left;(intro w';go_simp;with_reducible rfl);rotate_left;(simp only [Act.put,s1_,s2_,s3_,i64_w,i32_w];rfl)
           refine pu_ 1 (some 24) ?_ bm74_ rfl rfl HT_.1 (Or.inl ⟨by rfl,?_⟩) ?_ ?_ ?_;rotate_left;(intro w';go_simp;with_reducible rfl);rotate_left;(simp only [Act.put,s1_,s2_,s3_,i64_w,i32_w];rfl)
           refine pu_ 2 (some 25) ?_ bm75_ rfl rfl HT_.1 (Or.inl ⟨by rfl,?_⟩) ?_ ?_ ?_;rotate_left;(intro w';go_simp;with_reducible rfl);rotate_left;(simp only [Act.put,s1_,s2_,s3_,i64_w,i32_w];rfl)
           refine pu_ 3 (some 26) ?_ bm76_ rfl rfl HT_.1 (Or.inl ⟨by rfl,?_⟩) ?_ ?_ ?_;rotate_left;(intro w';go_simp;with_reducible rfl);rotate_left;(simp only [Act.put,s1_,s2_,s3_,i64_w,i32_w];rfl)
           refine tu_ 4 (some 27) ?_ bm77_ rfl rfl HT_.1 HW_.1 (Or.inl ⟨by rfl,?_⟩) hHeld ?_ ?_ ?_;rotate_left;(rintro w' ⟨s0,s1,s2,s3⟩;go_simp;with_reducible rfl);rotate_left;(simp only [Act.put,s1_,s2_,s3_,i64_w,i32_w];rfl)
           refine pu_ 5 (some 28) ?_ bm78_ rfl rfl HT_.1 (Or.inl ⟨by rfl,?_⟩) ?_ ?_ ?_;rotate_left;(intro w';go_simp;with_reducible rfl);rotate_left;(simp only [Act.put,s1_,s2_,s3_,i64_w,i32_w];rfl)
           refine pu_ 6 (some 29) ?_ bm79_ rfl rfl HT_.1 (Or.inl ⟨by rfl,?_⟩) ?_ ?_ ?_;rotate_left;(intro w';go_simp;with_reducible rfl);rotate_left;(simp only [Act.put,s1_,s2_,s3_,i64_w,i32_w];rfl)
           refine pu_ 7 (some 30) ?_ bm80_ rfl rfl HT_.1 (Or.inl ⟨by rfl,?_⟩) ?_ ?_ ?_;rotate_left;(intro w';go_simp;with_reducible rfl);rotate_left;(simp only [Act.put,s1_,s2_,s3_,i64_w,i32_w];rfl)
           refine pu_ 8 (some 31) ?_ bm81_ rfl rfl HT_.1 (Or.inl ⟨by rfl,?_⟩) ?_ ?_ ?_;rotate_left;(intro w';go_simp;with_reducible rfl);rotate_left;(simp only [Act.put,s1_,s2_,s3_,i64_w,i32_w];rfl)
           refine pu_ 9 (some 32) ?_ bm82_ rfl rfl HT_.1 (Or.inl ⟨by rfl,?_⟩) ?_ ?_ ?_;rotate_left;(intro w';go_simp;with_reducible rfl);rotate_left;(simp only [Act.put,s1_,s2_,s3_,i64_w,i32_w];rfl)
           refine pu_ 10 (some 33) ?_ bm83_ rfl rfl HT_.1 (Or.inl ⟨by rfl,?_⟩) ?_ ?_ ?_;rotate_left;(intro w';go_simp;with_reducible rfl);rotate_left;(simp only [Act.put,s1_,s2_,s3_,i64_w,i32_w];rfl)
           refine pu_ 11 (some 34) undef bm84_ rfl rfl HT_.1 (Or.inr ⟨by rfl,rfl⟩) ?_ ?_ ?_;rotate_left;(simp only [Act.put,s1_,s2_,s3_,i64_w,i32_w];rfl)
           refine pu_ 12 (some 35) undef bm85_ rfl rfl HT_.1 (Or.inr ⟨by rfl,rfl⟩) ?_ ?_ ?_;rotate_left;(simp only [Act.put,s1_,s2_,s3_,i64_w,i32_w];rfl)
           refine pu_ 13 (some 36) undef bm86_ rfl rfl HT_.1 (Or.inr ⟨by rfl,rfl⟩) ?_ ?_ ?_;rotate_left;(simp only [Act.put,s1_,s2_,s3_,i64_w,i32_w];rfl)
           refine pu_ 14 (some 37) undef bm87_ rfl rfl HT_.1 (Or.inr ⟨by rfl,rfl⟩) ?_ ?_ ?_;rotate_left;(simp only [Act.put,s1_,s2_,s3_,i64_w,i32_w];rfl)
           refine pu_ 15 (some 38) undef bm88_ rfl rfl HT_.1 (Or.inr ⟨by rfl,rfl⟩) ?_ ?_ ?_;rotate_left;(simp only [Act.put,s1_,s2_,s3_,i64_w,i32_w];rfl)
           refine pu_ 16 (some 39) undef bm89_ rfl rfl HT_.1 (Or.inr ⟨by rfl,rfl⟩) ?_ ?_ ?_;rotate_left;(simp only [Act.put,s1_,s2_,s3_,i64_w,i32_w];rfl)
           refine pu_ 17 (some 40) undef bm90_ rfl rfl HT_.1 (Or.inr ⟨by rfl,rfl⟩) ?_ ?_ ?_;rotate_left;(simp only [Act.put,s1_,s2_,s3_,i64_w,i32_w];rfl)
           refine pu_ 18 (some 41) undef bm91_ rfl rfl HT_.1 (Or.inr ⟨by rfl,rfl⟩) ?_ ?_ ?_;rotate_left;(simp only [Act.put,s1_,s2_,s3_,i64_w,i32_w];rfl)
           refine pu_ 19 (some 42) undef bm92_ rfl rfl HT_.1 (Or.inr ⟨by rfl,rfl⟩) ?_ ?_ ?_;rotate_left;(simp only [Act.put,s1_,s2_,s3_,i64_w,i32_w];rfl)
           refine pu_ 20 (some 43) undef bm93_ rfl rfl HT_.1 (Or.inr ⟨by rfl,rfl⟩) ?_ ?_ ?_;rotate_left;(simp only [Act.put,s1_,s2_,s3_,i64_w,i32_w];rfl)
           refine pu_ 21 (some 44) undef bm94_ rfl rfl HT_.1 (Or.inr ⟨by rfl,rfl⟩) ?_ ?_ ?_;rotate_left;(simp only [Act.put,s1_,s2_,s3_,i64_w,i32_w];rfl)
           refine pu_ 22 (some 45) undef bm95_ rfl rfl HT_.1 (Or.inr ⟨by rfl,rfl⟩) ?_ ?_ ?_;rotate_left;(simp only [Act.put,s1_,s2_,s3_,i64_w,i32_w];rfl)
           refine pu_ 23 (some 46) undef bm96_ rfl rfl HT_.1 (Or.inr ⟨by rfl,rfl⟩) ?_ ?_ ?_;rotate_left;(simp only [Act.put,s1_,s2_,s3_,i64_w,i32_w];rfl)
           refine pu_ 24 (some 47) undef bm97_ rfl rfl HT_.1 (Or.inr ⟨by rfl,rfl⟩) ?_ ?_ ?_;rotate_left;(simp only [Act.put,s1_,s2_,s3_,i64_w,i32_w];rfl)
           refine pu_ 25 (some 48) undef bm98_ rfl rfl HT_.1 (Or.inr ⟨by rfl,rfl⟩) ?_ ?_ ?_;rotate_left;(simp only [Act.put,s1_,s2_,s3_,i64_w,i32_w];rfl)
           refine pu_ 26 (some 49) undef bm99_ rfl rfl HT_.1 (Or.inr ⟨by rfl,rfl⟩) ?_ ?_ ?_;rotate_left;(simp only [Act.put,s1_,s2_,s3_,i64_w,i32_w];rfl)
           refine pu_ 27 (some 50) undef bm100_ rfl rfl HT_.1 (Or.inr ⟨by rfl,rfl⟩) ?_ ?_ ?_;rotate_left;(simp only [Act.put,s1_,s2_,s3_,i64_w,i32_w];rfl)
           refine pu_ 28 (some 51) undef bm101_ rfl rfl HT_.1 (Or.inr ⟨by rfl,rfl⟩) ?_ ?_ ?_;rotate_left;(simp only [Act.put,s1_,s2_,s3_,i64_w,i32_w];rfl)
           refine pu_ 29 (some 52) undef bm102_ rfl rfl HT_.1 (Or.inr ⟨by rfl,rfl⟩) ?_ ?_ ?_;rotate_left;(simp only [Act.put,s1_,s2_,s3_,i64_w,i32_w];rfl)
           refine pu_ 30 (some 53) undef bm103_ rfl rfl HT_.1 (Or.inr ⟨by rfl,rfl⟩) ?_ ?_ ?_;rotate_left;(simp only [Act.put,s1_,s2_,s3_,i64_w,i32_w];rfl)
           refine pu_ 31 (some 54) undef bm104_ rfl rfl HT_.1 (Or.inr ⟨by rfl,rfl⟩) ?_ ?_ ?_;rotate_left;(simp only [Act.put,s1_,s2_,s3_,i64_w,i32_w];rfl)
           refine pu_ 32 (some 55) undef bm105_ rfl rfl HT_.1 (Or.inr ⟨by rfl,rfl⟩) ?_ ?_ ?_;rotate_left;(simp only [Act.put,s1_,s2_,s3_,i64_w,i32_w];rfl)
           refine pu_ 33 (some 56) undef bm106_ rfl rfl HT_.1 (Or.inr ⟨by rfl,rfl⟩) ?_ ?_ ?_;rotate_left;(simp only [Act.put,s1_,s2_,s3_,i64_w,i32_w];rfl)
           refine pu_ 34 (some 57) undef bm107_ rfl rfl HT_.1 (Or.inr ⟨by rfl,rfl⟩) ?_ ?_ ?_;rotate_left;(simp only [Act.put,s1_,s2_,s3_,i64_w,i32_w];rfl)
           refine pu_ 35 (some 58) undef bm108_ rfl rfl HT_.1 (Or.inr ⟨by rfl,rfl⟩) ?_ ?_ ?_;rotate_left;(simp only [Act.put,s1_,s2_,s3_,i64_w,i32_w];rfl)
           refine pu_ 36 (some 59) undef bm109_ rfl rfl HT_.1 (Or.inr ⟨by rfl,rfl⟩) ?_ ?_ ?_;rotate_left;(simp only [Act.put,s1_,s2_,s3_,i64_w,i32_w];rfl)
           refine pu_ 37 (some 60) undef bm110_ rfl rfl HT_.1 (Or.inr ⟨by rfl,rfl⟩) ?_ ?_ ?_;rotate_left;(simp only [Act.put,s1_,s2_,s3_,i64_w,i32_w];rfl)
           refine pu_ 38 (some 61) undef bm111_ rfl rfl HT_.1 (Or.inr ⟨by rfl,rfl⟩) ?_ ?_ ?_;rotate_left;(simp only [Act.put,s1_,s2_,s3_,i64_w,i32_w];rfl)
           refine pu_ 39 (some 62) undef bm112_ rfl rfl HT_.1 (Or.inr ⟨by rfl,rfl⟩) ?_ ?_ ?_;rotate_left;(simp only [Act.put,s1_,s2_,s3_,i64_w,i32_w];rfl)
           refine pu_ 40 (some 63) undef bm113_ rfl rfl HT_.1 (Or.inr ⟨by rfl,rfl⟩) ?_ ?_ ?_;rotate_left;(simp only [Act.put,s1_,s2_,s3_,i64_w,i32_w];rfl)
           refine pu_ 41 (some 64) ?_ bm114_ rfl rfl HT_.1 (Or.inl ⟨by rfl,?_⟩) ?_ ?_ ?_;rotate_left;(intro w';go_simp;with_reducible rfl);rotate_left;(simp only [Act.put,s1_,s2_,s3_,i64_w,i32_w];rfl)
           refine pu_ 42 (some 65) ?_ bm115_ rfl rfl HT_.1 (Or.inl ⟨by rfl,?_⟩) ?_ ?_ ?_;rotate_left;(intro w';go_simp;with_reducible rfl);rotate_left;(simp only [Act.put,s1_,s2_,s3_,i64_w,i32_w];rfl)
           refine pu_ 43 (some 66) ?_ bm116_ rfl rfl HT_.1 (Or.inl ⟨by rfl,?_⟩) ?_ ?_ ?_;rotate_left;(intro w';go_simp;with_reducible rfl);rotate_left;(simp only [Act.put,s1_,s2_,s3_,i64_w,i32_w];rfl)
           refine pu_ 44 (some 67) ?_ bm117_ rfl rfl HT_.1 (Or.inl ⟨by rfl,?_⟩) ?_ ?_ ?_;rotate_left;(intro w';go_simp;with_reducible rfl);rotate_left;(simp only [Act.put,s1_,s2_,s3_,i64_w,i32_w];rfl)
           refine pu_ 45 (some 68) ?_ bm118_ rfl rfl HT_.1 (Or.inl ⟨by rfl,?_⟩) ?_ ?_ ?_;rotate_left;(intro w';go_simp;with_reducible rfl);rotate_left;(simp only [Act.put,s1_,s2_,s3_,i64_w,i32_w];rfl)
           refine pu_ 46 (some 69) ?_ bm119_ rfl rfl HT_.1 (Or.inl ⟨by rfl,?_⟩) ?_ ?_ ?_;rotate_left;(intro w';go_simp;with_reducible rfl);rotate_left;(simp only [Act.put,s1_,s2_,s3_,i64_w,i32_w];rfl)
           refine pu_ 47 (some 70) ?_ bm120_ rfl rfl HT_.1 (Or.inl ⟨by rfl,?_⟩) ?_ ?_ ?_;rotate_left;(intro w';go_simp;with_reducible rfl);rotate_left;(simp only [Act.put,s1_,s2_,s3_,i64_w,i32_w];rfl)
           refine pu_ 48 (some 71) ?_ bm121_ rfl rfl HT_.1 (Or.inl ⟨by rfl,?_⟩) ?_ ?_ ?_;rotate_left;(intro w';go_simp;with_reducible rfl);rotate_left;(simp only [Act.put,s1_,s2_,s3_,i64_w,i32_w];rfl)
           refine pu_ 49 (some 72) ?_ bm122_ rfl rfl HT_.1 (Or.inl ⟨by rfl,?_⟩) ?_ ?_ ?_;rotate_left;(intro w';go_simp;with_reducible rfl);rotate_left;(simp only [Act.put,s1_,s2_,s3_,i64_w,i32_w];rfl)
           refine pu_ 50 (some 73) ?_ bm123_ rfl rfl HT_.1 (Or.inl ⟨by rfl,?_⟩) ?_ ?_ ?_;rotate_left;(intro w';go_simp;with_reducible rfl);rotate_left;(simp only [Act.put,s1_,s2_,s3_,i64_w,i32_w];rfl)
           refine tu_ 51 (some 74) ?_ bm124_ rfl rfl HT_.1 HW_.1 (Or.inl ⟨by rfl,?_⟩) hHeld ?_ ?_ ?_;rotate_left;(rintro w' ⟨s0,s1,s2,s3⟩;go_simp;with_reducible rfl);rotate_left;(simp only [Act.put,s1_,s2_,s3_,i64_w,i32_w];rfl)
           refine one_ (i:=52) (N:=some 75) bm125_ rfl rfl (one_of HT_.out (by kernel_rfl)) (by decide) (fun K hK=>?_);refine goes_ Try.func158 (by kernel_rfl) rfl #[.int .i64 ((rd_T75 l1 a2).f1)] (by rfl) rfl rfl lm_ ?_;(with_reducible refine (spec_opens.calls ((rd_T75 l1 a2).f1) t11 _ A41.1).mono ?_);rintro e w' ⟨rfl,⟨nd,rfl⟩⟩;refine ⟨_,rfl,?_⟩;refine hK.out _ _ ⟨(blk_cell BK3.1 0).trans rfl,(blk_cell BK3.1 1).trans rfl,(blk_cell BK3.1 2).trans rfl,(blk_cell BK3.1 3).trans rfl⟩ (fun hHeld=>?_);clear hK K;refine norm_ (a':=?_) ?_ ?_;rotate_left
           ·show Act.put _ (some 75) _ = _
            simp only [Act.put,s1_,s2_,s3_,i64_w,i32_w];rfl
           refine pu_ 53 (some 76) ?_ bm126_ rfl rfl HT_.1 (Or.inl ⟨by rfl,?_⟩) ?_ ?_ ?_;rotate_left;(intro w';go_simp;with_reducible rfl);rotate_left;(simp only [Act.put,s1_,s2_,s3_,i64_w,i32_w];rfl)
           refine pu_ 54 (some 77) ?_ bm127_ rfl rfl HT_.1 (Or.inl ⟨by rfl,?_⟩) ?_ ?_ ?_;rotate_left;(intro w';go_simp;with_reducible rfl);rotate_left;(simp only [Act.put,s1_,s2_,s3_,i64_w,i32_w];rfl)
           refine done_ (done_of HT_.out (by kernel_rfl)) ?_;(try go_wp2);go_meet
           case rel=>exact ⟨_,(t11),(by first | rfl | (simp;done) | (simp [*];done)),H',⟨by have:=HJ5.out;first | omega | exact Nat.le_refl _⟩,⟨by (with_reducible repeat (first | refine blk_drewN ?_ _ | refine blk_drew ?_ | refine blk_alloc ?_ _));exact BK1.1⟩,⟨by (with_reducible repeat (first | refine blk_drewN ?_ _ | refine blk_drew ?_ | refine blk_alloc ?_ _));exact BK3.1⟩,⟨hbw_⟩⟩
          ·rw [if_neg c40] at H
           have c40b0 : ((wrap64 (a2 + 1)) == (l1.length : Int)) = false:=beq_eq_false_iff_ne.mpr c40;have c40b1 : ((wrap64 (a2 + 1)) != (l1.length : Int)) = true:=bne_iff_ne.mpr c40;have H':=a0_ H;clear H;(try go_wp2);have n0_:=a0_ (blk_drew BK1.1);have n1_:=a0_ (blk_drew BK3.1);have n2_:=a0_ (below_drew1 HB.1);clear BK1;clear BK3;clear HB;have BK1:=n0_;have BK3:=n1_;have HB:=n2_;clear n0_ n1_ n2_;refine start_ (n:=55) (S:=fun w'=>w'.cell? ⟨gb3,0,none⟩ = some (.int .i64 ((rd_T75 l1 a2).f0)) ∧ w'.cell? ⟨gb3,1,none⟩ = some (.int .i64 ((rd_T75 l1 a2).f1)) ∧ w'.cell? ⟨gb3,2,none⟩ = some (.int .i64 ((rd_T75 l1 a2).f2)) ∧ w'.cell? ⟨gb3,3,none⟩ = some (.int .i64 ((rd_T75 l1 a2).f3))) (ds:=[]) bm72_ (by kernel_rfl) rfl rfl ⟨(blk_cell BK3.1 0).trans rfl,(blk_cell BK3.1 1).trans rfl,(blk_cell BK3.1 2).trans rfl,(blk_cell BK3.1 3).trans rfl⟩ (fun hHeld=>?_);refine with_tabW spec_validLine.tab4 spec_validLine.bits4 (fun HT_ HW_=>?_);generalize wc.drew = w43 at BK1 BK3 HB hHeld ⊢;refine pu_ 0 (some 23) ?_ bm73_ rfl rfl HT_.1 (Or.inl ⟨by rfl,?_⟩) ?_ ?_ ?_;rotate_left;(intro w';go_simp;with_reducible rfl);rotate_left;(simp only [Act.put,s1_,s2_,s3_,i64_w,i32_w];rfl)
           refine pu_ 1 (some 24) ?_ bm74_ rfl rfl HT_.1 (Or.inl ⟨by rfl,?_⟩) ?_ ?_ ?_;rotate_left;(intro w';go_simp;with_reducible rfl);rotate_left;(simp only [Act.put,s1_,s2_,s3_,i64_w,i32_w];rfl)
           refine pu_ 2 (some 25) ?_ bm75_ rfl rfl HT_.1 (Or.inl ⟨by rfl,?_⟩) ?_ ?_ ?_;rotate_left;(intro w';go_simp;with_reducible rfl);rotate_left;(simp only [Act.put,s1_,s2_,s3_,i64_w,i32_w];rfl)
           refine pu_ 3 (some 26) ?_ bm76_ rfl rfl HT_.1 (Or.inl ⟨by rfl,?_⟩) ?_ ?_ ?_;rotate_left;(intro w';go_simp;with_reducible rfl);rotate_left;(simp only [Act.put,s1_,s2_,s3_,i64_w,i32_w];rfl)
           refine tu_ 4 (some 27) ?_ bm77_ rfl rfl HT_.1 HW_.1 (Or.inl ⟨by rfl,?_⟩) hHeld ?_ ?_ ?_;rotate_left;(rintro w' ⟨s0,s1,s2,s3⟩;go_simp;with_reducible rfl);rotate_left;(simp only [Act.put,s1_,s2_,s3_,i64_w,i32_w];rfl)
           refine pu_ 5 (some 28) ?_ bm78_ rfl rfl HT_.1 (Or.inl ⟨by rfl,?_⟩) ?_ ?_ ?_;rotate_left;(intro w';go_simp;with_reducible rfl);rotate_left;(simp only [Act.put,s1_,s2_,s3_,i64_w,i32_w];rfl)
           refine pu_ 6 (some 29) ?_ bm79_ rfl rfl HT_.1 (Or.inl ⟨by rfl,?_⟩) ?_ ?_ ?_;rotate_left;(intro w';go_simp;with_reducible rfl);rotate_left;(simp only [Act.put,s1_,s2_,s3_,i64_w,i32_w];rfl)
           refine pu_ 7 (some 30) ?_ bm80_ rfl rfl HT_.1 (Or.inl ⟨by rfl,?_⟩) ?_ ?_ ?_;rotate_left;(intro w';go_simp;with_reducible rfl);rotate_left;(simp only [Act.put,s1_,s2_,s3_,i64_w,i32_w];rfl)
           refine pu_ 8 (some 31) ?_ bm81_ rfl rfl HT_.1 (Or.inl ⟨by rfl,?_⟩) ?_ ?_ ?_;rotate_left;(intro w';go_simp;with_reducible rfl);rotate_left;(simp only [Act.put,s1_,s2_,s3_,i64_w,i32_w];rfl)
           refine pu_ 9 (some 32) ?_ bm82_ rfl rfl HT_.1 (Or.inl ⟨by rfl,?_⟩) ?_ ?_ ?_;rotate_left;(intro w';go_simp;with_reducible rfl);rotate_left;(simp only [Act.put,s1_,s2_,s3_,i64_w,i32_w];rfl)
           refine pu_ 10 (some 33) ?_ bm83_ rfl rfl HT_.1 (Or.inl ⟨by rfl,?_⟩) ?_ ?_ ?_;rotate_left;(intro w';go_simp;with_reducible rfl);rotate_left;(simp only [Act.put,s1_,s2_,s3_,i64_w,i32_w];rfl)
           refine pu_ 11 (some 34) undef bm84_ rfl rfl HT_.1 (Or.inr ⟨by rfl,rfl⟩) ?_ ?_ ?_;rotate_left;(simp only [Act.put,s1_,s2_,s3_,i64_w,i32_w];rfl)
           refine pu_ 12 (some 35) undef bm85_ rfl rfl HT_.1 (Or.inr ⟨by rfl,rfl⟩) ?_ ?_ ?_;rotate_left;(simp only [Act.put,s1_,s2_,s3_,i64_w,i32_w];rfl)
           refine pu_ 13 (some 36) undef bm86_ rfl rfl HT_.1 (Or.inr ⟨by rfl,rfl⟩) ?_ ?_ ?_;rotate_left;(simp only [Act.put,s1_,s2_,s3_,i64_w,i32_w];rfl)
           refine pu_ 14 (some 37) undef bm87_ rfl rfl HT_.1 (Or.inr ⟨by rfl,rfl⟩) ?_ ?_ ?_;rotate_left;(simp only [Act.put,s1_,s2_,s3_,i64_w,i32_w];rfl)
           refine pu_ 15 (some 38) undef bm88_ rfl rfl HT_.1 (Or.inr ⟨by rfl,rfl⟩) ?_ ?_ ?_;rotate_left;(simp only [Act.put,s1_,s2_,s3_,i64_w,i32_w];rfl)
           refine pu_ 16 (some 39) undef bm89_ rfl rfl HT_.1 (Or.inr ⟨by rfl,rfl⟩) ?_ ?_ ?_;rotate_left;(simp only [Act.put,s1_,s2_,s3_,i64_w,i32_w];rfl)
           refine pu_ 17 (some 40) undef bm90_ rfl rfl HT_.1 (Or.inr ⟨by rfl,rfl⟩) ?_ ?_ ?_;rotate_left;(simp only [Act.put,s1_,s2_,s3_,i64_w,i32_w];rfl)
           refine pu_ 18 (some 41) undef bm91_ rfl rfl HT_.1 (Or.inr ⟨by rfl,rfl⟩) ?_ ?_ ?_;rotate_left;(simp only [Act.put,s1_,s2_,s3_,i64_w,i32_w];rfl)
           refine pu_ 19 (some 42) undef bm92_ rfl rfl HT_.1 (Or.inr ⟨by rfl,rfl⟩) ?_ ?_ ?_;rotate_left;(simp only [Act.put,s1_,s2_,s3_,i64_w,i32_w];rfl)
           refine pu_ 20 (some 43) undef bm93_ rfl rfl HT_.1 (Or.inr ⟨by rfl,rfl⟩) ?_ ?_ ?_;rotate_left;(simp only [Act.put,s1_,s2_,s3_,i64_w,i32_w];rfl)
           refine pu_ 21 (some 44) undef bm94_ rfl rfl HT_.1 (Or.inr ⟨by rfl,rfl⟩) ?_ ?_ ?_;rotate_left;(simp only [Act.put,s1_,s2_,s3_,i64_w,i32_w];rfl)
           refine pu_ 22 (some 45) undef bm95_ rfl rfl HT_.1 (Or.inr ⟨by rfl,rfl⟩) ?_ ?_ ?_;rotate_left;(simp only [Act.put,s1_,s2_,s3_,i64_w,i32_w];rfl)
           refine pu_ 23 (some 46) undef bm96_ rfl rfl HT_.1 (Or.inr ⟨by rfl,rfl⟩) ?_ ?_ ?_;rotate_left;(simp only [Act.put,s1_,s2_,s3_,i64_w,i32_w];rfl)
           refine pu_ 24 (some 47) undef bm97_ rfl rfl HT_.1 (Or.inr ⟨by rfl,rfl⟩) ?_ ?_ ?_;rotate_left;(simp only [Act.put,s1_,s2_,s3_,i64_w,i32_w];rfl)
           refine pu_ 25 (some 48) undef bm98_ rfl rfl HT_.1 (Or.inr ⟨by rfl,rfl⟩) ?_ ?_ ?_;rotate_left;(simp only [Act.put,s1_,s2_,s3_,i64_w,i32_w];rfl)
           refine pu_ 26 (some 49) undef bm99_ rfl rfl HT_.1 (Or.inr ⟨by rfl,rfl⟩) ?_ ?_ ?_;rotate_left;(simp only [Act.put,s1_,s2_,s3_,i64_w,i32_w];rfl)
           refine pu_ 27 (some 50) undef bm100_ rfl rfl HT_.1 (Or.inr ⟨by rfl,rfl⟩) ?_ ?_ ?_;rotate_left;(simp only [Act.put,s1_,s2_,s3_,i64_w,i32_w];rfl)
           refine pu_ 28 (some 51) undef bm101_ rfl rfl HT_.1 (Or.inr ⟨by rfl,rfl⟩) ?_ ?_ ?_;rotate_left;(simp only [Act.put,s1_,s2_,s3_,i64_w,i32_w];rfl)
           refine pu_ 29 (some 52) undef bm102_ rfl rfl HT_.1 (Or.inr ⟨by rfl,rfl⟩) ?_ ?_ ?_;rotate_left;(simp only [Act.put,s1_,s2_,s3_,i64_w,i32_w];rfl)
           refine pu_ 30 (some 53) undef bm103_ rfl rfl HT_.1 (Or.inr ⟨by rfl,rfl⟩) ?_ ?_ ?_;rotate_left;(simp only [Act.put,s1_,s2_,s3_,i64_w,i32_w];rfl)
           refine pu_ 31 (some 54) undef bm104_ rfl rfl HT_.1 (Or.inr ⟨by rfl,rfl⟩) ?_ ?_ ?_;rotate_left;(simp only [Act.put,s1_,s2_,s3_,i64_w,i32_w];rfl)
           refine pu_ 32 (some 55) undef bm105_ rfl rfl HT_.1 (Or.inr ⟨by rfl,rfl⟩) ?_ ?_ ?_;rotate_left;(simp only [Act.put,s1_,s2_,s3_,i64_w,i32_w];rfl)
           refine pu_ 33 (some 56) undef bm106_ rfl rfl HT_.1 (Or.inr ⟨by rfl,rfl⟩) ?_ ?_ ?_;rotate_left;(simp only [Act.put,s1_,s2_,s3_,i64_w,i32_w];rfl)
           refine pu_ 34 (some 57) undef bm107_ rfl rfl HT_.1 (Or.inr ⟨by rfl,rfl⟩) ?_ ?_ ?_;rotate_left;(simp only [Act.put,s1_,s2_,s3_,i64_w,i32_w];rfl)
           refine pu_ 35 (some 58) undef bm108_ rfl rfl HT_.1 (Or.inr ⟨by rfl,rfl⟩) ?_ ?_ ?_;rotate_left;(simp only [Act.put,s1_,s2_,s3_,i64_w,i32_w];rfl)
           refine pu_ 36 (some 59) undef bm109_ rfl rfl HT_.1 (Or.inr ⟨by rfl,rfl⟩) ?_ ?_ ?_;rotate_left;(simp only [Act.put,s1_,s2_,s3_,i64_w,i32_w];rfl)
           refine pu_ 37 (some 60) undef bm110_ rfl rfl HT_.1 (Or.inr ⟨by rfl,rfl⟩) ?_ ?_ ?_;rotate_left;(simp only [Act.put,s1_,s2_,s3_,i64_w,i32_w];rfl)
           refine pu_ 38 (some 61) undef bm111_ rfl rfl HT_.1 (Or.inr ⟨by rfl,rfl⟩) ?_ ?_ ?_;rotate_left;(simp only [Act.put,s1_,s2_,s3_,i64_w,i32_w];rfl)
           refine pu_ 39 (some 62) undef bm112_ rfl rfl HT_.1 (Or.inr ⟨by rfl,rfl⟩) ?_ ?_ ?_;rotate_left;(simp only [Act.put,s1_,s2_,s3_,i64_w,i32_w];rfl)
           refine pu_ 40 (some 63) undef bm113_ rfl rfl HT_.1 (Or.inr ⟨by rfl,rfl⟩) ?_ ?_ ?_;rotate_left;(simp only [Act.put,s1_,s2_,s3_,i64_w,i32_w];rfl)
           refine pu_ 41 (some 64) ?_ bm114_ rfl rfl HT_.1 (Or.inl ⟨by rfl,?_⟩) ?_ ?_ ?_;rotate_left;(intro w';go_simp;with_reducible rfl);rotate_left;(simp only [Act.put,s1_,s2_,s3_,i64_w,i32_w];rfl)
           refine pu_ 42 (some 65) ?_ bm115_ rfl rfl HT_.1 (Or.inl ⟨by rfl,?_⟩) ?_ ?_ ?_;rotate_left;(intro w';go_simp;with_reducible rfl);rotate_left;(simp only [Act.put,s1_,s2_,s3_,i64_w,i32_w];rfl)
           refine pu_ 43 (some 66) ?_ bm116_ rfl rfl HT_.1 (Or.inl ⟨by rfl,?_⟩) ?_ ?_ ?_;rotate_left;(intro w';go_simp;with_reducible rfl);rotate_left;(simp only [Act.put,s1_,s2_,s3_,i64_w,i32_w];rfl)
           refine pu_ 44 (some 67) ?_ bm117_ rfl rfl HT_.1 (Or.inl ⟨by rfl,?_⟩) ?_ ?_ ?_;rotate_left;(intro w';go_simp;with_reducible rfl);rotate_left;(simp only [Act.put,s1_,s2_,s3_,i64_w,i32_w];rfl)
           refine pu_ 45 (some 68) ?_ bm118_ rfl rfl HT_.1 (Or.inl ⟨by rfl,?_⟩) ?_ ?_ ?_;rotate_left;(intro w';go_simp;with_reducible rfl);rotate_left;(simp only [Act.put,s1_,s2_,s3_,i64_w,i32_w];rfl)
           refine pu_ 46 (some 69) ?_ bm119_ rfl rfl HT_.1 (Or.inl ⟨by rfl,?_⟩) ?_ ?_ ?_;rotate_left;(intro w';go_simp;with_reducible rfl);rotate_left;(simp only [Act.put,s1_,s2_,s3_,i64_w,i32_w];rfl)
           refine pu_ 47 (some 70) ?_ bm120_ rfl rfl HT_.1 (Or.inl ⟨by rfl,?_⟩) ?_ ?_ ?_;rotate_left;(intro w';go_simp;with_reducible rfl);rotate_left;(simp only [Act.put,s1_,s2_,s3_,i64_w,i32_w];rfl)
           refine pu_ 48 (some 71) ?_ bm121_ rfl rfl HT_.1 (Or.inl ⟨by rfl,?_⟩) ?_ ?_ ?_;rotate_left;(intro w';go_simp;with_reducible rfl);rotate_left;(simp only [Act.put,s1_,s2_,s3_,i64_w,i32_w];rfl)
           refine pu_ 49 (some 72) ?_ bm122_ rfl rfl HT_.1 (Or.inl ⟨by rfl,?_⟩) ?_ ?_ ?_;rotate_left;(intro w';go_simp;with_reducible rfl);rotate_left;(simp only [Act.put,s1_,s2_,s3_,i64_w,i32_w];rfl)
           refine pu_ 50 (some 73) undef bm123_ rfl rfl HT_.1 (Or.inr ⟨by rfl,rfl⟩) ?_ ?_ ?_;rotate_left;(simp only [Act.put,s1_,s2_,s3_,i64_w,i32_w];rfl)
           refine pu_ 51 (some 74) undef bm124_ rfl rfl HT_.1 (Or.inr ⟨by rfl,rfl⟩) ?_ ?_ ?_;rotate_left;(simp only [Act.put,s1_,s2_,s3_,i64_w,i32_w];rfl)
           refine pu_ 52 (some 75) undef bm125_ rfl rfl HT_.1 (Or.inr ⟨by rfl,rfl⟩) ?_ ?_ ?_;rotate_left;(simp only [Act.put,s1_,s2_,s3_,i64_w,i32_w];rfl)
           refine pu_ 53 (some 76) ?_ bm126_ rfl rfl HT_.1 (Or.inl ⟨by rfl,?_⟩) ?_ ?_ ?_;rotate_left;(intro w';go_simp;with_reducible rfl);rotate_left;(simp only [Act.put,s1_,s2_,s3_,i64_w,i32_w];rfl)
           refine pu_ 54 (some 77) ?_ bm127_ rfl rfl HT_.1 (Or.inl ⟨by rfl,?_⟩) ?_ ?_ ?_;rotate_left;(intro w';go_simp;with_reducible rfl);rotate_left;(simp only [Act.put,s1_,s2_,s3_,i64_w,i32_w];rfl)
           refine done_ (done_of HT_.out (by kernel_rfl)) ?_;(try go_wp2);go_meet
           case rel=>exact ⟨_,(false),(by first | rfl | (simp;done) | (simp [*];done)),H',⟨by have:=HJ5.out;first | omega | exact Nat.le_refl _⟩,⟨by (with_reducible repeat (first | refine blk_drewN ?_ _ | refine blk_drew ?_ | refine blk_alloc ?_ _));exact BK1.1⟩,⟨by (with_reducible repeat (first | refine blk_drewN ?_ _ | refine blk_drew ?_ | refine blk_alloc ?_ _));exact BK3.1⟩,⟨hbw_⟩⟩
        ·rw [if_neg c26] at H
         have c26b0 : (((rd_T75 l1 a2).f0) == 0) = false:=beq_eq_false_iff_ne.mpr c26;have c26b1 : (((rd_T75 l1 a2).f0) != 0) = true:=bne_iff_ne.mpr c26;have H':=a0_ H;clear H;(try go_wp2);have n0_:=a0_ (blk_drew BK1.1);have n1_:=a0_ (blk_drew BK3.1);have n2_:=a0_ (below_drew1 HB.1);clear BK1;clear BK3;clear HB;have BK1:=n0_;have BK3:=n1_;have HB:=n2_;clear n0_ n1_ n2_;refine start_ (n:=55) (S:=fun w'=>w'.cell? ⟨gb3,0,none⟩ = some (.int .i64 ((rd_T75 l1 a2).f0)) ∧ w'.cell? ⟨gb3,1,none⟩ = some (.int .i64 ((rd_T75 l1 a2).f1)) ∧ w'.cell? ⟨gb3,2,none⟩ = some (.int .i64 ((rd_T75 l1 a2).f2)) ∧ w'.cell? ⟨gb3,3,none⟩ = some (.int .i64 ((rd_T75 l1 a2).f3))) (ds:=[]) bm72_ (by kernel_rfl) rfl rfl ⟨(blk_cell BK3.1 0).trans rfl,(blk_cell BK3.1 1).trans rfl,(blk_cell BK3.1 2).trans rfl,(blk_cell BK3.1 3).trans rfl⟩ (fun hHeld=>?_);refine with_tabW spec_validLine.tab4 spec_validLine.bits4 (fun HT_ HW_=>?_);generalize wc.drew = w44 at BK1 BK3 HB hHeld ⊢;refine pu_ 0 (some 23) ?_ bm73_ rfl rfl HT_.1 (Or.inl ⟨by rfl,?_⟩) ?_ ?_ ?_;rotate_left;(intro w';go_simp;with_reducible rfl);rotate_left;(simp only [Act.put,s1_,s2_,s3_,i64_w,i32_w];rfl)
         refine pu_ 1 (some 24) ?_ bm74_ rfl rfl HT_.1 (Or.inl ⟨by rfl,?_⟩) ?_ ?_ ?_;rotate_left;(intro w';go_simp;with_reducible rfl);rotate_left;(simp only [Act.put,s1_,s2_,s3_,i64_w,i32_w];rfl)
         refine pu_ 2 (some 25) ?_ bm75_ rfl rfl HT_.1 (Or.inl ⟨by rfl,?_⟩) ?_ ?_ ?_;rotate_left;(intro w';go_simp;with_reducible rfl);rotate_left;(simp only [Act.put,s1_,s2_,s3_,i64_w,i32_w];rfl)
         refine pu_ 3 (some 26) ?_ bm76_ rfl rfl HT_.1 (Or.inl ⟨by rfl,?_⟩) ?_ ?_ ?_;rotate_left;(intro w';go_simp;with_reducible rfl);rotate_left;(simp only [Act.put,s1_,s2_,s3_,i64_w,i32_w];rfl)
         refine tu_ 4 (some 27) ?_ bm77_ rfl rfl HT_.1 HW_.1 (Or.inl ⟨by rfl,?_⟩) hHeld ?_ ?_ ?_;rotate_left;(rintro w' ⟨s0,s1,s2,s3⟩;go_simp;with_reducible rfl);rotate_left;(simp only [Act.put,s1_,s2_,s3_,i64_w,i32_w];rfl)
         refine pu_ 5 (some 28) ?_ bm78_ rfl rfl HT_.1 (Or.inl ⟨by rfl,?_⟩) ?_ ?_ ?_;rotate_left;(intro w';go_simp;with_reducible rfl);rotate_left;(simp only [Act.put,s1_,s2_,s3_,i64_w,i32_w];rfl)
         refine pu_ 6 (some 29) ?_ bm79_ rfl rfl HT_.1 (Or.inl ⟨by rfl,?_⟩) ?_ ?_ ?_;rotate_left;(intro w';go_simp;with_reducible rfl);rotate_left;(simp only [Act.put,s1_,s2_,s3_,i64_w,i32_w];rfl)
         refine pu_ 7 (some 30) ?_ bm80_ rfl rfl HT_.1 (Or.inl ⟨by rfl,?_⟩) ?_ ?_ ?_;rotate_left;(intro w';go_simp;with_reducible rfl);rotate_left;(simp only [Act.put,s1_,s2_,s3_,i64_w,i32_w];rfl)
         refine pu_ 8 (some 31) undef bm81_ rfl rfl HT_.1 (Or.inr ⟨by rfl,rfl⟩) ?_ ?_ ?_;rotate_left;(simp only [Act.put,s1_,s2_,s3_,i64_w,i32_w];rfl)
         refine pu_ 9 (some 32) undef bm82_ rfl rfl HT_.1 (Or.inr ⟨by rfl,rfl⟩) ?_ ?_ ?_;rotate_left;(simp only [Act.put,s1_,s2_,s3_,i64_w,i32_w];rfl)
         refine pu_ 10 (some 33) undef bm83_ rfl rfl HT_.1 (Or.inr ⟨by rfl,rfl⟩) ?_ ?_ ?_;rotate_left;(simp only [Act.put,s1_,s2_,s3_,i64_w,i32_w];rfl)
         refine pu_ 11 (some 34) undef bm84_ rfl rfl HT_.1 (Or.inr ⟨by rfl,rfl⟩) ?_ ?_ ?_;rotate_left;(simp only [Act.put,s1_,s2_,s3_,i64_w,i32_w];rfl)
         refine pu_ 12 (some 35) undef bm85_ rfl rfl HT_.1 (Or.inr ⟨by rfl,rfl⟩) ?_ ?_ ?_;rotate_left;(simp only [Act.put,s1_,s2_,s3_,i64_w,i32_w];rfl)
         refine pu_ 13 (some 36) undef bm86_ rfl rfl HT_.1 (Or.inr ⟨by rfl,rfl⟩) ?_ ?_ ?_;rotate_left;(simp only [Act.put,s1_,s2_,s3_,i64_w,i32_w];rfl)
         refine pu_ 14 (some 37) undef bm87_ rfl rfl HT_.1 (Or.inr ⟨by rfl,rfl⟩) ?_ ?_ ?_;rotate_left;(simp only [Act.put,s1_,s2_,s3_,i64_w,i32_w];rfl)
         refine pu_ 15 (some 38) undef bm88_ rfl rfl HT_.1 (Or.inr ⟨by rfl,rfl⟩) ?_ ?_ ?_;rotate_left;(simp only [Act.put,s1_,s2_,s3_,i64_w,i32_w];rfl)
         refine pu_ 16 (some 39) undef bm89_ rfl rfl HT_.1 (Or.inr ⟨by rfl,rfl⟩) ?_ ?_ ?_;rotate_left;(simp only [Act.put,s1_,s2_,s3_,i64_w,i32_w];rfl)
         refine pu_ 17 (some 40) undef bm90_ rfl rfl HT_.1 (Or.inr ⟨by rfl,rfl⟩) ?_ ?_ ?_;rotate_left;(simp only [Act.put,s1_,s2_,s3_,i64_w,i32_w];rfl)
         refine pu_ 18 (some 41) undef bm91_ rfl rfl HT_.1 (Or.inr ⟨by rfl,rfl⟩) ?_ ?_ ?_;rotate_left;(simp only [Act.put,s1_,s2_,s3_,i64_w,i32_w];rfl)
         refine pu_ 19 (some 42) undef bm92_ rfl rfl HT_.1 (Or.inr ⟨by rfl,rfl⟩) ?_ ?_ ?_;rotate_left;(simp only [Act.put,s1_,s2_,s3_,i64_w,i32_w];rfl)
         refine pu_ 20 (some 43) undef bm93_ rfl rfl HT_.1 (Or.inr ⟨by rfl,rfl⟩) ?_ ?_ ?_;rotate_left;(simp only [Act.put,s1_,s2_,s3_,i64_w,i32_w];rfl)
         refine pu_ 21 (some 44) undef bm94_ rfl rfl HT_.1 (Or.inr ⟨by rfl,rfl⟩) ?_ ?_ ?_;rotate_left;(simp only [Act.put,s1_,s2_,s3_,i64_w,i32_w];rfl)
         refine pu_ 22 (some 45) undef bm95_ rfl rfl HT_.1 (Or.inr ⟨by rfl,rfl⟩) ?_ ?_ ?_;rotate_left;(simp only [Act.put,s1_,s2_,s3_,i64_w,i32_w];rfl)
         refine pu_ 23 (some 46) undef bm96_ rfl rfl HT_.1 (Or.inr ⟨by rfl,rfl⟩) ?_ ?_ ?_;rotate_left;(simp only [Act.put,s1_,s2_,s3_,i64_w,i32_w];rfl)
         refine pu_ 24 (some 47) undef bm97_ rfl rfl HT_.1 (Or.inr ⟨by rfl,rfl⟩) ?_ ?_ ?_;rotate_left;(simp only [Act.put,s1_,s2_,s3_,i64_w,i32_w];rfl)
         refine pu_ 25 (some 48) undef bm98_ rfl rfl HT_.1 (Or.inr ⟨by rfl,rfl⟩) ?_ ?_ ?_;rotate_left;(simp only [Act.put,s1_,s2_,s3_,i64_w,i32_w];rfl)
         refine pu_ 26 (some 49) undef bm99_ rfl rfl HT_.1 (Or.inr ⟨by rfl,rfl⟩) ?_ ?_ ?_;rotate_left;(simp only [Act.put,s1_,s2_,s3_,i64_w,i32_w];rfl)
         refine pu_ 27 (some 50) undef bm100_ rfl rfl HT_.1 (Or.inr ⟨by rfl,rfl⟩) ?_ ?_ ?_;rotate_left;(simp only [Act.put,s1_,s2_,s3_,i64_w,i32_w];rfl)
         refine pu_ 28 (some 51) undef bm101_ rfl rfl HT_.1 (Or.inr ⟨by rfl,rfl⟩) ?_ ?_ ?_;rotate_left;(simp only [Act.put,s1_,s2_,s3_,i64_w,i32_w];rfl)
         refine pu_ 29 (some 52) undef bm102_ rfl rfl HT_.1 (Or.inr ⟨by rfl,rfl⟩) ?_ ?_ ?_;rotate_left;(simp only [Act.put,s1_,s2_,s3_,i64_w,i32_w];rfl)
         refine pu_ 30 (some 53) undef bm103_ rfl rfl HT_.1 (Or.inr ⟨by rfl,rfl⟩) ?_ ?_ ?_;rotate_left;(simp only [Act.put,s1_,s2_,s3_,i64_w,i32_w];rfl)
         refine pu_ 31 (some 54) undef bm104_ rfl rfl HT_.1 (Or.inr ⟨by rfl,rfl⟩) ?_ ?_ ?_;rotate_left;(simp only [Act.put,s1_,s2_,s3_,i64_w,i32_w];rfl)
         refine pu_ 32 (some 55) undef bm105_ rfl rfl HT_.1 (Or.inr ⟨by rfl,rfl⟩) ?_ ?_ ?_;rotate_left;(simp only [Act.put,s1_,s2_,s3_,i64_w,i32_w];rfl)
         refine pu_ 33 (some 56) undef bm106_ rfl rfl HT_.1 (Or.inr ⟨by rfl,rfl⟩) ?_ ?_ ?_;rotate_left;(simp only [Act.put,s1_,s2_,s3_,i64_w,i32_w];rfl)
         refine pu_ 34 (some 57) undef bm107_ rfl rfl HT_.1 (Or.inr ⟨by rfl,rfl⟩) ?_ ?_ ?_;rotate_left;(simp only [Act.put,s1_,s2_,s3_,i64_w,i32_w];rfl)
         refine pu_ 35 (some 58) undef bm108_ rfl rfl HT_.1 (Or.inr ⟨by rfl,rfl⟩) ?_ ?_ ?_;rotate_left;(simp only [Act.put,s1_,s2_,s3_,i64_w,i32_w];rfl)
         refine pu_ 36 (some 59) undef bm109_ rfl rfl HT_.1 (Or.inr ⟨by rfl,rfl⟩) ?_ ?_ ?_;rotate_left;(simp only [Act.put,s1_,s2_,s3_,i64_w,i32_w];rfl)
         refine pu_ 37 (some 60) undef bm110_ rfl rfl HT_.1 (Or.inr ⟨by rfl,rfl⟩) ?_ ?_ ?_;rotate_left;(simp only [Act.put,s1_,s2_,s3_,i64_w,i32_w];rfl)
         refine pu_ 38 (some 61) undef bm111_ rfl rfl HT_.1 (Or.inr ⟨by rfl,rfl⟩) ?_ ?_ ?_;rotate_left;(simp only [Act.put,s1_,s2_,s3_,i64_w,i32_w];rfl)
         refine pu_ 39 (some 62) undef bm112_ rfl rfl HT_.1 (Or.inr ⟨by rfl,rfl⟩) ?_ ?_ ?_;rotate_left;(simp only [Act.put,s1_,s2_,s3_,i64_w,i32_w];rfl)
         refine pu_ 40 (some 63) undef bm113_ rfl rfl HT_.1 (Or.inr ⟨by rfl,rfl⟩) ?_ ?_ ?_;rotate_left;(simp only [Act.put,s1_,s2_,s3_,i64_w,i32_w];rfl)
         refine pu_ 41 (some 64) undef bm114_ rfl rfl HT_.1 (Or.inr ⟨by rfl,rfl⟩) ?_ ?_ ?_;rotate_left;(simp only [Act.put,s1_,s2_,s3_,i64_w,i32_w];rfl)
         refine pu_ 42 (some 65) ?_ bm115_ rfl rfl HT_.1 (Or.inl ⟨by rfl,?_⟩) ?_ ?_ ?_;rotate_left;(intro w';go_simp;with_reducible rfl);rotate_left;(simp only [Act.put,s1_,s2_,s3_,i64_w,i32_w];rfl)
         refine pu_ 43 (some 66) ?_ bm116_ rfl rfl HT_.1 (Or.inl ⟨by rfl,?_⟩) ?_ ?_ ?_;rotate_left;(intro w';go_simp;with_reducible rfl);rotate_left;(simp only [Act.put,s1_,s2_,s3_,i64_w,i32_w];rfl)
         refine pu_ 44 (some 67) undef bm117_ rfl rfl HT_.1 (Or.inr ⟨by rfl,rfl⟩) ?_ ?_ ?_;rotate_left;(simp only [Act.put,s1_,s2_,s3_,i64_w,i32_w];rfl)
         refine pu_ 45 (some 68) undef bm118_ rfl rfl HT_.1 (Or.inr ⟨by rfl,rfl⟩) ?_ ?_ ?_;rotate_left;(simp only [Act.put,s1_,s2_,s3_,i64_w,i32_w];rfl)
         refine pu_ 46 (some 69) undef bm119_ rfl rfl HT_.1 (Or.inr ⟨by rfl,rfl⟩) ?_ ?_ ?_;rotate_left;(simp only [Act.put,s1_,s2_,s3_,i64_w,i32_w];rfl)
         refine pu_ 47 (some 70) undef bm120_ rfl rfl HT_.1 (Or.inr ⟨by rfl,rfl⟩) ?_ ?_ ?_;rotate_left;(simp only [Act.put,s1_,s2_,s3_,i64_w,i32_w];rfl)
         refine pu_ 48 (some 71) undef bm121_ rfl rfl HT_.1 (Or.inr ⟨by rfl,rfl⟩) ?_ ?_ ?_;rotate_left;(simp only [Act.put,s1_,s2_,s3_,i64_w,i32_w];rfl)
         refine pu_ 49 (some 72) undef bm122_ rfl rfl HT_.1 (Or.inr ⟨by rfl,rfl⟩) ?_ ?_ ?_;rotate_left;(simp only [Act.put,s1_,s2_,s3_,i64_w,i32_w];rfl)
         refine pu_ 50 (some 73) undef bm123_ rfl rfl HT_.1 (Or.inr ⟨by rfl,rfl⟩) ?_ ?_ ?_;rotate_left;(simp only [Act.put,s1_,s2_,s3_,i64_w,i32_w];rfl)
         refine pu_ 51 (some 74) undef bm124_ rfl rfl HT_.1 (Or.inr ⟨by rfl,rfl⟩) ?_ ?_ ?_;rotate_left;(simp only [Act.put,s1_,s2_,s3_,i64_w,i32_w];rfl)
         refine pu_ 52 (some 75) undef bm125_ rfl rfl HT_.1 (Or.inr ⟨by rfl,rfl⟩) ?_ ?_ ?_;rotate_left;(simp only [Act.put,s1_,s2_,s3_,i64_w,i32_w];rfl)
         refine pu_ 53 (some 76) undef bm126_ rfl rfl HT_.1 (Or.inr ⟨by rfl,rfl⟩) ?_ ?_ ?_;rotate_left;(simp only [Act.put,s1_,s2_,s3_,i64_w,i32_w];rfl)
         refine pu_ 54 (some 77) ?_ bm127_ rfl rfl HT_.1 (Or.inl ⟨by rfl,?_⟩) ?_ ?_ ?_;rotate_left;(intro w';go_simp;with_reducible rfl);rotate_left;(simp only [Act.put,s1_,s2_,s3_,i64_w,i32_w];rfl)
         refine done_ (done_of HT_.out (by kernel_rfl)) ?_;(try go_wp2);go_meet
         case rel=>exact ⟨_,(true),(by first | rfl | (simp;done) | (simp [*];done)),H',⟨by have:=HJ5.out;first | omega | exact Nat.le_refl _⟩,⟨by (with_reducible repeat (first | refine blk_drewN ?_ _ | refine blk_drew ?_ | refine blk_alloc ?_ _));exact BK1.1⟩,⟨by (with_reducible repeat (first | refine blk_drewN ?_ _ | refine blk_drew ?_ | refine blk_alloc ?_ _));exact BK3.1⟩,⟨hbw_⟩⟩
       ·rw [if_neg c25] at H
        have c25b0 : (a2 == 0) = false:=beq_eq_false_iff_ne.mpr c25;have c25b1 : (a2 != 0) = true:=bne_iff_ne.mpr c25;(first | rw [c25b0] | (simp only [i64_w,i32_w];rw [c25b0]) | skip);by_cases c45 : a2 > 0
        ·rw [if_pos c45] at H
         have c45b0 : decide (0 < a2) = true:=decide_eq_true c45;clear c45;obtain ⟨ji46,hji46⟩ : ∃ j_ : Int,(wrap64 (a2 - 1)) = j_:=⟨_,rfl⟩
         replace H : (if 0 ≤ (ji46) then (if (ji46) < (l1.length : Int) then (if ((rd_T75 l1 a2).f0) > (wrap64 (((rd_T75 l1 (ji46)).f0) + 1)) then (spec_validLine.j1 kj5 l1 a2 true ((rd_T75 l1 a2).f0) ((rd_T75 l1 a2).f1) ((rd_T75 l1 a2).f2) ((rd_T75 l1 a2).f3)) else ((spec_opens.f ((rd_T75 l1 (ji46)).f1)).bind fun t14=>(if (t14 != (((rd_T75 l1 a2).f0) == (wrap64 (((rd_T75 l1 (ji46)).f0) + 1)))) = true then (spec_validLine.j1 kj5 l1 a2 true ((rd_T75 l1 a2).f0) ((rd_T75 l1 a2).f1) ((rd_T75 l1 a2).f2) ((rd_T75 l1 a2).f3)) else (if (wrap64 (a2 + 1)) = (l1.length : Int) then ((spec_opens.f ((rd_T75 l1 a2).f1)).bind fun t16=>(spec_validLine.j1 kj5 l1 a2 t16 ((rd_T75 l1 a2).f0) ((rd_T75 l1 a2).f1) ((rd_T75 l1 a2).f2) ((rd_T75 l1 a2).f3))) else (spec_validLine.j1 kj5 l1 a2 false ((rd_T75 l1 a2).f0) ((rd_T75 l1 a2).f1) ((rd_T75 l1 a2).f2) ((rd_T75 l1 a2).f3)))))) else (none)) else (none)) = some r:=by first | (rw [hji46] at H;exact H) | (simp only [hji46] at H ⊢;exact H)
         have hji46w : (IntKind.i64.wrap (a2 - 1)) = ji46:=(i64_w _).trans hji46;by_cases c47 : 0 ≤ (ji46)
         ·rw [if_pos c47] at H
          have c47b0 : decide (0 ≤ (ji46)) = true:=decide_eq_true c47;clear c47;by_cases c48 : (ji46) < (l1.length : Int)
          ·rw [if_pos c48] at H
           have c48b0 : decide ((ji46) < (l1.length : Int)) = true:=decide_eq_true c48;clear c48;by_cases c49 : ((rd_T75 l1 a2).f0) > (wrap64 (((rd_T75 l1 (ji46)).f0) + 1))
           ·rw [if_pos c49] at H
            have c49b0 : decide ((wrap64 (((rd_T75 l1 (ji46)).f0) + 1)) < ((rd_T75 l1 a2).f0)) = true:=decide_eq_true c49;clear c49;have H':=a0_ H;clear H;(try go_wp2);have n0_:=a0_ (blk_drew BK1.1);have n1_:=a0_ (blk_drew BK3.1);have n2_:=a0_ (below_drew1 HB.1);clear BK1;clear BK3;clear HB;have BK1:=n0_;have BK3:=n1_;have HB:=n2_;clear n0_ n1_ n2_;have p12 : 0 ≤ ((ji46) : Int):=od_;have q12 : (ji46) < (l1.length : Int):=od_;obtain ⟨ad12,e12,hx12_0,hx12_1,hx12_2,hx12_3⟩:=at_T75 HR1.1 (ji46) p12 q12;have hw12_3:=hx12_3;have hw12_2:=hx12_2;have hw12_1:=hx12_1;have hw12_0:=hx12_0;obtain rfl : ad2 = ad12:=(by injection e12);replace hx12_0:=cl_ HB.1 hx12_0;replace hx12_1:=cl_ HB.1 hx12_1;replace hx12_2:=cl_ HB.1 hx12_2;replace hx12_3:=cl_ HB.1 hx12_3;replace p12:=eq_true p12;replace q12:=eq_true q12;refine start_ (n:=55) (S:=fun w'=>w'.cell? ⟨gb3,0,none⟩ = some (.int .i64 ((rd_T75 l1 a2).f0)) ∧ w'.cell? ⟨gb3,1,none⟩ = some (.int .i64 ((rd_T75 l1 a2).f1)) ∧ w'.cell? ⟨gb3,2,none⟩ = some (.int .i64 ((rd_T75 l1 a2).f2)) ∧ w'.cell? ⟨gb3,3,none⟩ = some (.int .i64 ((rd_T75 l1 a2).f3)) ∧ w'.cell? (ad2.add (((ji46)).toNat * 4)) = some (.int .i64 ((rd_T75 l1 (ji46)).f0)) ∧ w'.cell? ⟨(ad2.add (((ji46)).toNat * 4)).block,(ad2.add (((ji46)).toNat * 4)).off + 1,none⟩ = some (.int .i64 ((rd_T75 l1 (ji46)).f1)) ∧ w'.cell? ⟨(ad2.add (((ji46)).toNat * 4)).block,(ad2.add (((ji46)).toNat * 4)).off + 2,none⟩ = some (.int .i64 ((rd_T75 l1 (ji46)).f2)) ∧ w'.cell? ⟨(ad2.add (((ji46)).toNat * 4)).block,(ad2.add (((ji46)).toNat * 4)).off + 3,none⟩ = some (.int .i64 ((rd_T75 l1 (ji46)).f3))) (ds:=[]) bm72_ (by kernel_rfl) rfl rfl ⟨(blk_cell BK3.1 0).trans rfl,(blk_cell BK3.1 1).trans rfl,(blk_cell BK3.1 2).trans rfl,(blk_cell BK3.1 3).trans rfl,((HB.1.cell (World.block_lt_of_cell? w _ hw12_0)).trans hw12_0),((HB.1.cell (World.block_lt_of_cell? w _ hw12_1)).trans hw12_1),((HB.1.cell (World.block_lt_of_cell? w _ hw12_2)).trans hw12_2),((HB.1.cell (World.block_lt_of_cell? w _ hw12_3)).trans hw12_3)⟩ (fun hHeld=>?_);refine with_tabW spec_validLine.tab4 spec_validLine.bits4 (fun HT_ HW_=>?_);generalize wc.drew = w50 at BK1 BK3 HB hx12_0 hx12_1 hx12_2 hx12_3 hHeld ⊢;refine pu_ 0 (some 23) ?_ bm73_ rfl rfl HT_.1 (Or.inl ⟨by rfl,?_⟩) ?_ ?_ ?_;rotate_left;(intro w';go_simp;with_reducible rfl);rotate_left;(simp only [Act.put,s1_,s2_,s3_,i64_w,i32_w];rfl)
            refine pu_ 1 (some 24) ?_ bm74_ rfl rfl HT_.1 (Or.inl ⟨by rfl,?_⟩) ?_ ?_ ?_;rotate_left;(intro w';go_simp;with_reducible rfl);rotate_left;(simp only [Act.put,s1_,s2_,s3_,i64_w,i32_w];rfl)
            refine pu_ 2 (some 25) ?_ bm75_ rfl rfl HT_.1 (Or.inl ⟨by rfl,?_⟩) ?_ ?_ ?_;rotate_left;(intro w';go_simp;with_reducible rfl);rotate_left;(simp only [Act.put,s1_,s2_,s3_,i64_w,i32_w];rfl)
            refine pu_ 3 (some 26) undef bm76_ rfl rfl HT_.1 (Or.inr ⟨by rfl,rfl⟩) ?_ ?_ ?_;rotate_left;(simp only [Act.put,s1_,s2_,s3_,i64_w,i32_w];rfl)
            refine pu_ 4 (some 27) undef bm77_ rfl rfl HT_.1 (Or.inr ⟨by rfl,rfl⟩) ?_ ?_ ?_;rotate_left;(simp only [Act.put,s1_,s2_,s3_,i64_w,i32_w];rfl)
            refine pu_ 5 (some 28) undef bm78_ rfl rfl HT_.1 (Or.inr ⟨by rfl,rfl⟩) ?_ ?_ ?_;rotate_left;(simp only [Act.put,s1_,s2_,s3_,i64_w,i32_w];rfl)
            refine pu_ 6 (some 29) ?_ bm79_ rfl rfl HT_.1 (Or.inl ⟨by rfl,?_⟩) ?_ ?_ ?_;rotate_left;(intro w';go_simp;with_reducible rfl);rotate_left;(simp only [Act.put,s1_,s2_,s3_,i64_w,i32_w];rfl)
            refine pu_ 7 (some 30) ?_ bm80_ rfl rfl HT_.1 (Or.inl ⟨by rfl,?_⟩) ?_ ?_ ?_;rotate_left;(intro w';go_simp;with_reducible rfl);rotate_left;(simp only [Act.put,s1_,s2_,s3_,i64_w,i32_w];rfl)
            refine pu_ 8 (some 31) ?_ bm81_ rfl rfl HT_.1 (Or.inl ⟨by rfl,?_⟩) ?_ ?_ ?_;rotate_left;(intro w';go_simp;with_reducible rfl);rotate_left;(simp only [Act.put,s1_,s2_,s3_,i64_w,i32_w];rfl)
            refine pu_ 9 (some 32) ?_ bm82_ rfl rfl HT_.1 (Or.inl ⟨by rfl,?_⟩) ?_ ?_ ?_;rotate_left;(intro w';go_simp;with_reducible rfl);rotate_left;(simp only [Act.put,s1_,s2_,s3_,i64_w,i32_w];rfl)
            refine pu_ 10 (some 33) ?_ bm83_ rfl rfl HT_.1 (Or.inl ⟨by rfl,?_⟩) ?_ ?_ ?_;rotate_left;(intro w';go_simp;with_reducible rfl);rotate_left;(simp only [Act.put,s1_,s2_,s3_,i64_w,i32_w];rfl)
            refine pu_ 11 (some 34) ?_ bm84_ rfl rfl HT_.1 (Or.inl ⟨by rfl,?_⟩) ?_ ?_ ?_;rotate_left;(intro w';go_simp;with_reducible rfl);rotate_left;(simp only [Act.put,s1_,s2_,s3_,i64_w,i32_w];rfl)
            refine pu_ 13 (some 36) ?_ bm128_ rfl rfl HT_.1 (Or.inl ⟨by rfl,?_⟩) ?_ ?_ ?_;rotate_left;(intro w';go_simp;with_reducible rfl);rotate_left;(simp only [Act.put,s1_,s2_,s3_,i64_w,i32_w];rfl)
            refine pu_ 14 (some 37) ?_ bm129_ rfl rfl HT_.1 (Or.inl ⟨by rfl,?_⟩) ?_ ?_ ?_;rotate_left;(intro w';go_simp;with_reducible rfl);rotate_left;(simp only [Act.put,s1_,s2_,s3_,i64_w,i32_w];rfl)
            refine pu_ 15 (some 38) ?_ bm130_ rfl rfl HT_.1 (Or.inl ⟨by rfl,?_⟩) ?_ ?_ ?_;rotate_left;(intro w';go_simp;with_reducible rfl);rotate_left;(simp only [Act.put,s1_,s2_,s3_,i64_w,i32_w];rfl)
            refine pu_ 16 (some 39) ?_ bm131_ rfl rfl HT_.1 (Or.inl ⟨by rfl,?_⟩) ?_ ?_ ?_;rotate_left;(intro w';go_simp;with_reducible rfl);rotate_left;(simp only [Act.put,s1_,s2_,s3_,i64_w,i32_w];rfl)
            refine pu_ 17 (some 40) ?_ bm132_ rfl rfl HT_.1 (Or.inl ⟨by rfl,?_⟩) ?_ ?_ ?_;rotate_left;(intro w';go_simp;with_reducible rfl);rotate_left;(simp only [Act.put,s1_,s2_,s3_,i64_w,i32_w];rfl)
            refine tu_ 12 (some 35) ?_ bm90_ rfl rfl HT_.1 HW_.1 (Or.inl ⟨by rfl,?_⟩) hHeld ?_ ?_ ?_;rotate_left;(rintro w' ⟨s0,s1,s2,s3,s4,s5,s6,s7⟩;go_simp;with_reducible rfl);rotate_left;(simp only [Act.put,s1_,s2_,s3_,i64_w,i32_w];rfl)
            refine tu_ 18 (some 41) ?_ bm91_ rfl rfl HT_.1 HW_.1 (Or.inl ⟨by rfl,?_⟩) hHeld ?_ ?_ ?_;rotate_left;(rintro w' ⟨s0,s1,s2,s3,s4,s5,s6,s7⟩;go_simp;with_reducible rfl);rotate_left;(simp only [Act.put,s1_,s2_,s3_,i64_w,i32_w];rfl)
            refine pu_ 19 (some 42) ?_ bm92_ rfl rfl HT_.1 (Or.inl ⟨by rfl,?_⟩) ?_ ?_ ?_;rotate_left;(intro w';go_simp;with_reducible rfl);rotate_left;(simp only [Act.put,s1_,s2_,s3_,i64_w,i32_w];rfl)
            refine pu_ 20 (some 43) ?_ bm93_ rfl rfl HT_.1 (Or.inl ⟨by rfl,?_⟩) ?_ ?_ ?_;rotate_left;(intro w';go_simp;with_reducible rfl);rotate_left;(simp only [Act.put,s1_,s2_,s3_,i64_w,i32_w];rfl)
            refine pu_ 21 (some 44) ?_ bm94_ rfl rfl HT_.1 (Or.inl ⟨by rfl,?_⟩) ?_ ?_ ?_;rotate_left;(intro w';go_simp;with_reducible rfl);rotate_left;(simp only [Act.put,s1_,s2_,s3_,i64_w,i32_w];rfl)
            refine pu_ 22 (some 45) undef bm95_ rfl rfl HT_.1 (Or.inr ⟨by rfl,rfl⟩) ?_ ?_ ?_;rotate_left;(simp only [Act.put,s1_,s2_,s3_,i64_w,i32_w];rfl)
            refine pu_ 23 (some 46) undef bm96_ rfl rfl HT_.1 (Or.inr ⟨by rfl,rfl⟩) ?_ ?_ ?_;rotate_left;(simp only [Act.put,s1_,s2_,s3_,i64_w,i32_w];rfl)
            refine pu_ 24 (some 47) undef bm97_ rfl rfl HT_.1 (Or.inr ⟨by rfl,rfl⟩) ?_ ?_ ?_;rotate_left;(simp only [Act.put,s1_,s2_,s3_,i64_w,i32_w];rfl)
            refine pu_ 25 (some 48) undef bm98_ rfl rfl HT_.1 (Or.inr ⟨by rfl,rfl⟩) ?_ ?_ ?_;rotate_left;(simp only [Act.put,s1_,s2_,s3_,i64_w,i32_w];rfl)
            refine pu_ 26 (some 49) undef bm99_ rfl rfl HT_.1 (Or.inr ⟨by rfl,rfl⟩) ?_ ?_ ?_;rotate_left;(simp only [Act.put,s1_,s2_,s3_,i64_w,i32_w];rfl)
            refine pu_ 27 (some 50) undef bm100_ rfl rfl HT_.1 (Or.inr ⟨by rfl,rfl⟩) ?_ ?_ ?_;rotate_left;(simp only [Act.put,s1_,s2_,s3_,i64_w,i32_w];rfl)
            refine pu_ 28 (some 51) undef bm101_ rfl rfl HT_.1 (Or.inr ⟨by rfl,rfl⟩) ?_ ?_ ?_;rotate_left;(simp only [Act.put,s1_,s2_,s3_,i64_w,i32_w];rfl)
            refine pu_ 29 (some 52) undef bm102_ rfl rfl HT_.1 (Or.inr ⟨by rfl,rfl⟩) ?_ ?_ ?_;rotate_left;(simp only [Act.put,s1_,s2_,s3_,i64_w,i32_w];rfl)
            refine pu_ 30 (some 53) undef bm103_ rfl rfl HT_.1 (Or.inr ⟨by rfl,rfl⟩) ?_ ?_ ?_;rotate_left;(simp only [Act.put,s1_,s2_,s3_,i64_w,i32_w];rfl)
            refine pu_ 31 (some 54) undef bm104_ rfl rfl HT_.1 (Or.inr ⟨by rfl,rfl⟩) ?_ ?_ ?_;rotate_left;(simp only [Act.put,s1_,s2_,s3_,i64_w,i32_w];rfl)
            refine pu_ 32 (some 55) undef bm105_ rfl rfl HT_.1 (Or.inr ⟨by rfl,rfl⟩) ?_ ?_ ?_;rotate_left;(simp only [Act.put,s1_,s2_,s3_,i64_w,i32_w];rfl)
            refine pu_ 33 (some 56) undef bm106_ rfl rfl HT_.1 (Or.inr ⟨by rfl,rfl⟩) ?_ ?_ ?_;rotate_left;(simp only [Act.put,s1_,s2_,s3_,i64_w,i32_w];rfl)
            refine pu_ 34 (some 57) undef bm107_ rfl rfl HT_.1 (Or.inr ⟨by rfl,rfl⟩) ?_ ?_ ?_;rotate_left;(simp only [Act.put,s1_,s2_,s3_,i64_w,i32_w];rfl)
            refine pu_ 35 (some 58) undef bm108_ rfl rfl HT_.1 (Or.inr ⟨by rfl,rfl⟩) ?_ ?_ ?_;rotate_left;(simp only [Act.put,s1_,s2_,s3_,i64_w,i32_w];rfl)
            refine pu_ 36 (some 59) undef bm109_ rfl rfl HT_.1 (Or.inr ⟨by rfl,rfl⟩) ?_ ?_ ?_;rotate_left;(simp only [Act.put,s1_,s2_,s3_,i64_w,i32_w];rfl)
            refine pu_ 37 (some 60) undef bm110_ rfl rfl HT_.1 (Or.inr ⟨by rfl,rfl⟩) ?_ ?_ ?_;rotate_left;(simp only [Act.put,s1_,s2_,s3_,i64_w,i32_w];rfl)
            refine pu_ 38 (some 61) undef bm111_ rfl rfl HT_.1 (Or.inr ⟨by rfl,rfl⟩) ?_ ?_ ?_;rotate_left;(simp only [Act.put,s1_,s2_,s3_,i64_w,i32_w];rfl)
            refine pu_ 39 (some 62) undef bm112_ rfl rfl HT_.1 (Or.inr ⟨by rfl,rfl⟩) ?_ ?_ ?_;rotate_left;(simp only [Act.put,s1_,s2_,s3_,i64_w,i32_w];rfl)
            refine pu_ 40 (some 63) ?_ bm113_ rfl rfl HT_.1 (Or.inl ⟨by rfl,?_⟩) ?_ ?_ ?_;rotate_left;(intro w';go_simp;with_reducible rfl);rotate_left;(simp only [Act.put,s1_,s2_,s3_,i64_w,i32_w];rfl)
            refine pu_ 41 (some 64) ?_ bm114_ rfl rfl HT_.1 (Or.inl ⟨by rfl,?_⟩) ?_ ?_ ?_;rotate_left;(intro w';go_simp;with_reducible rfl);rotate_left;(simp only [Act.put,s1_,s2_,s3_,i64_w,i32_w];rfl)
            refine pu_ 42 (some 65) ?_ bm115_ rfl rfl HT_.1 (Or.inl ⟨by rfl,?_⟩) ?_ ?_ ?_;rotate_left;(intro w';go_simp;with_reducible rfl);rotate_left;(simp only [Act.put,s1_,s2_,s3_,i64_w,i32_w];rfl)
            refine pu_ 43 (some 66) ?_ bm116_ rfl rfl HT_.1 (Or.inl ⟨by rfl,?_⟩) ?_ ?_ ?_;rotate_left;(intro w';go_simp;with_reducible rfl);rotate_left;(simp only [Act.put,s1_,s2_,s3_,i64_w,i32_w];rfl)
            refine pu_ 44 (some 67) undef bm117_ rfl rfl HT_.1 (Or.inr ⟨by rfl,rfl⟩) ?_ ?_ ?_;rotate_left;(simp only [Act.put,s1_,s2_,s3_,i64_w,i32_w];rfl)
            refine pu_ 45 (some 68) undef bm118_ rfl rfl HT_.1 (Or.inr ⟨by rfl,rfl⟩) ?_ ?_ ?_;rotate_left;(simp only [Act.put,s1_,s2_,s3_,i64_w,i32_w];rfl)
            refine pu_ 46 (some 69) undef bm119_ rfl rfl HT_.1 (Or.inr ⟨by rfl,rfl⟩) ?_ ?_ ?_;rotate_left;(simp only [Act.put,s1_,s2_,s3_,i64_w,i32_w];rfl)
            refine pu_ 47 (some 70) undef bm120_ rfl rfl HT_.1 (Or.inr ⟨by rfl,rfl⟩) ?_ ?_ ?_;rotate_left;(simp only [Act.put,s1_,s2_,s3_,i64_w,i32_w];rfl)
            refine pu_ 48 (some 71) undef bm121_ rfl rfl HT_.1 (Or.inr ⟨by rfl,rfl⟩) ?_ ?_ ?_;rotate_left;(simp only [Act.put,s1_,s2_,s3_,i64_w,i32_w];rfl)
            refine pu_ 49 (some 72) undef bm122_ rfl rfl HT_.1 (Or.inr ⟨by rfl,rfl⟩) ?_ ?_ ?_;rotate_left;(simp only [Act.put,s1_,s2_,s3_,i64_w,i32_w];rfl)
            refine pu_ 50 (some 73) undef bm123_ rfl rfl HT_.1 (Or.inr ⟨by rfl,rfl⟩) ?_ ?_ ?_;rotate_left;(simp only [Act.put,s1_,s2_,s3_,i64_w,i32_w];rfl)
            refine pu_ 51 (some 74) undef bm124_ rfl rfl HT_.1 (Or.inr ⟨by rfl,rfl⟩) ?_ ?_ ?_;rotate_left;(simp only [Act.put,s1_,s2_,s3_,i64_w,i32_w];rfl)
            refine pu_ 52 (some 75) undef bm125_ rfl rfl HT_.1 (Or.inr ⟨by rfl,rfl⟩) ?_ ?_ ?_;rotate_left;(simp only [Act.put,s1_,s2_,s3_,i64_w,i32_w];rfl)
            refine pu_ 53 (some 76) undef bm126_ rfl rfl HT_.1 (Or.inr ⟨by rfl,rfl⟩) ?_ ?_ ?_;rotate_left;(simp only [Act.put,s1_,s2_,s3_,i64_w,i32_w];rfl)
            refine pu_ 54 (some 77) ?_ bm127_ rfl rfl HT_.1 (Or.inl ⟨by rfl,?_⟩) ?_ ?_ ?_;rotate_left;(intro w';go_simp;with_reducible rfl);rotate_left;(simp only [Act.put,s1_,s2_,s3_,i64_w,i32_w];rfl)
            refine done_ (done_of HT_.out (by kernel_rfl)) ?_;(try go_wp2);go_meet
            case rel=>exact ⟨_,(true),(by first | rfl | (simp;done) | (simp [*];done)),H',⟨by have:=HJ5.out;first | omega | exact Nat.le_refl _⟩,⟨by (with_reducible repeat (first | refine blk_drewN ?_ _ | refine blk_drew ?_ | refine blk_alloc ?_ _));exact BK1.1⟩,⟨by (with_reducible repeat (first | refine blk_drewN ?_ _ | refine blk_drew ?_ | refine blk_alloc ?_ _));exact BK3.1⟩,⟨hbw_⟩⟩
           ·rw [if_neg c49] at H
            have c49b0 : decide ((wrap64 (((rd_T75 l1 (ji46)).f0) + 1)) < ((rd_T75 l1 a2).f0)) = false:=decide_eq_false c49;clear c49;replace H:=Option.bind_eq_some_iff.mp H;obtain ⟨t14,A510,H⟩:=H;(try dsimp only at H);have A51:=a0_ A510;clear A510;by_cases c52 : (t14 != (((rd_T75 l1 a2).f0) == (wrap64 (((rd_T75 l1 (ji46)).f0) + 1)))) = true
            ·rw [if_pos c52] at H
             have c52b0 : (t14 != (((rd_T75 l1 a2).f0) == (wrap64 (((rd_T75 l1 (ji46)).f0) + 1)))) = true:=c52;(try (have c52b1 : decide (t14 = (((rd_T75 l1 a2).f0) == (wrap64 (((rd_T75 l1 (ji46)).f0) + 1)))) = false:=by simpa using c52));(try (have c52b2 : (t14 == (((rd_T75 l1 a2).f0) == (wrap64 (((rd_T75 l1 (ji46)).f0) + 1)))) = false:=by simpa using c52));(try (have c52b3 : ¬ (t14 = (((rd_T75 l1 a2).f0) == (wrap64 (((rd_T75 l1 (ji46)).f0) + 1)))):=by simpa using c52));clear c52;have H':=a0_ H;clear H;(try go_wp2);have n0_:=a0_ (blk_drew BK1.1);have n1_:=a0_ (blk_drew BK3.1);have n2_:=a0_ (below_drew1 HB.1);clear BK1;clear BK3;clear HB;have BK1:=n0_;have BK3:=n1_;have HB:=n2_;clear n0_ n1_ n2_;have p12 : 0 ≤ ((ji46) : Int):=od_;have q12 : (ji46) < (l1.length : Int):=od_;obtain ⟨ad12,e12,hx12_0,hx12_1,hx12_2,hx12_3⟩:=at_T75 HR1.1 (ji46) p12 q12;have hw12_3:=hx12_3;have hw12_2:=hx12_2;have hw12_1:=hx12_1;have hw12_0:=hx12_0;obtain rfl : ad2 = ad12:=(by injection e12);replace hx12_0:=cl_ HB.1 hx12_0;replace hx12_1:=cl_ HB.1 hx12_1;replace hx12_2:=cl_ HB.1 hx12_2;replace hx12_3:=cl_ HB.1 hx12_3;replace p12:=eq_true p12;replace q12:=eq_true q12;have p13 : 0 ≤ ((ji46) : Int):=od_;have q13 : (ji46) < (l1.length : Int):=od_;obtain ⟨ad13,e13,hx13_0,hx13_1,hx13_2,hx13_3⟩:=at_T75 HR1.1 (ji46) p13 q13;have hw13_3:=hx13_3;have hw13_2:=hx13_2;have hw13_1:=hx13_1;have hw13_0:=hx13_0;obtain rfl : ad2 = ad13:=(by injection e13);replace hx13_0:=cl_ HB.1 hx13_0;replace hx13_1:=cl_ HB.1 hx13_1;replace hx13_2:=cl_ HB.1 hx13_2;replace hx13_3:=cl_ HB.1 hx13_3;replace p13:=eq_true p13;replace q13:=eq_true q13;have p15 : 0 ≤ ((ji46) : Int):=od_;have q15 : (ji46) < (l1.length : Int):=od_;obtain ⟨ad15,e15,hx15_0,hx15_1,hx15_2,hx15_3⟩:=at_T75 HR1.1 (ji46) p15 q15;have hw15_3:=hx15_3;have hw15_2:=hx15_2;have hw15_1:=hx15_1;have hw15_0:=hx15_0;obtain rfl : ad2 = ad15:=(by injection e15);replace hx15_0:=cl_ HB.1 hx15_0;replace hx15_1:=cl_ HB.1 hx15_1;replace hx15_2:=cl_ HB.1 hx15_2;replace hx15_3:=cl_ HB.1 hx15_3;replace p15:=eq_true p15;replace q15:=eq_true q15;refine start_ (n:=55) (S:=fun w'=>w'.cell? ⟨gb3,0,none⟩ = some (.int .i64 ((rd_T75 l1 a2).f0)) ∧ w'.cell? ⟨gb3,1,none⟩ = some (.int .i64 ((rd_T75 l1 a2).f1)) ∧ w'.cell? ⟨gb3,2,none⟩ = some (.int .i64 ((rd_T75 l1 a2).f2)) ∧ w'.cell? ⟨gb3,3,none⟩ = some (.int .i64 ((rd_T75 l1 a2).f3)) ∧ w'.cell? (ad2.add (((ji46)).toNat * 4)) = some (.int .i64 ((rd_T75 l1 (ji46)).f0)) ∧ w'.cell? ⟨(ad2.add (((ji46)).toNat * 4)).block,(ad2.add (((ji46)).toNat * 4)).off + 1,none⟩ = some (.int .i64 ((rd_T75 l1 (ji46)).f1)) ∧ w'.cell? ⟨(ad2.add (((ji46)).toNat * 4)).block,(ad2.add (((ji46)).toNat * 4)).off + 2,none⟩ = some (.int .i64 ((rd_T75 l1 (ji46)).f2)) ∧ w'.cell? ⟨(ad2.add (((ji46)).toNat * 4)).block,(ad2.add (((ji46)).toNat * 4)).off + 3,none⟩ = some (.int .i64 ((rd_T75 l1 (ji46)).f3)) ∧ w'.cell? (ad2.add (((ji46)).toNat * 4)) = some (.int .i64 ((rd_T75 l1 (ji46)).f0)) ∧ w'.cell? ⟨(ad2.add (((ji46)).toNat * 4)).block,(ad2.add (((ji46)).toNat * 4)).off + 1,none⟩ = some (.int .i64 ((rd_T75 l1 (ji46)).f1)) ∧ w'.cell? ⟨(ad2.add (((ji46)).toNat * 4)).block,(ad2.add (((ji46)).toNat * 4)).off + 2,none⟩ = some (.int .i64 ((rd_T75 l1 (ji46)).f2)) ∧ w'.cell? ⟨(ad2.add (((ji46)).toNat * 4)).block,(ad2.add (((ji46)).toNat * 4)).off + 3,none⟩ = some (.int .i64 ((rd_T75 l1 (ji46)).f3)) ∧ w'.cell? (ad2.add (((ji46)).toNat * 4)) = some (.int .i64 ((rd_T75 l1 (ji46)).f0)) ∧ w'.cell? ⟨(ad2.add (((ji46)).toNat * 4)).block,(ad2.add (((ji46)).toNat * 4)).off + 1,none⟩ = some (.int .i64 ((rd_T75 l1 (ji46)).f1)) ∧ w'.cell? ⟨(ad2.add (((ji46)).toNat * 4)).block,(ad2.add (((ji46)).toNat * 4)).off + 2,none⟩ = some (.int .i64 ((rd_T75 l1 (ji46)).f2)) ∧ w'.cell? ⟨(ad2.add (((ji46)).toNat * 4)).block,(ad2.add (((ji46)).toNat * 4)).off + 3,none⟩ = some (.int .i64 ((rd_T75 l1 (ji46)).f3))) (ds:=[]) bm72_ (by kernel_rfl) rfl rfl ⟨(blk_cell BK3.1 0).trans rfl,(blk_cell BK3.1 1).trans rfl,(blk_cell BK3.1 2).trans rfl,(blk_cell BK3.1 3).trans rfl,((HB.1.cell (World.block_lt_of_cell? w _ hw12_0)).trans hw12_0),((HB.1.cell (World.block_lt_of_cell? w _ hw12_1)).trans hw12_1),((HB.1.cell (World.block_lt_of_cell? w _ hw12_2)).trans hw12_2),((HB.1.cell (World.block_lt_of_cell? w _ hw12_3)).trans hw12_3),((HB.1.cell (World.block_lt_of_cell? w _ hw13_0)).trans hw13_0),((HB.1.cell (World.block_lt_of_cell? w _ hw13_1)).trans hw13_1),((HB.1.cell (World.block_lt_of_cell? w _ hw13_2)).trans hw13_2),((HB.1.cell (World.block_lt_of_cell? w _ hw13_3)).trans hw13_3),((HB.1.cell (World.block_lt_of_cell? w _ hw15_0)).trans hw15_0),((HB.1.cell (World.block_lt_of_cell? w _ hw15_1)).trans hw15_1),((HB.1.cell (World.block_lt_of_cell? w _ hw15_2)).trans hw15_2),((HB.1.cell (World.block_lt_of_cell? w _ hw15_3)).trans hw15_3)⟩ (fun hHeld=>?_);refine with_tabW spec_validLine.tab4 spec_validLine.bits4 (fun HT_ HW_=>?_);generalize wc.drew = w53 at BK1 BK3 HB hx12_0 hx12_1 hx12_2 hx12_3 hx13_0 hx13_1 hx13_2 hx13_3 hx15_0 hx15_1 hx15_2 hx15_3 hHeld ⊢;refine pu_ 0 (some 23) ?_ bm73_ rfl rfl HT_.1 (Or.inl ⟨by rfl,?_⟩) ?_ ?_ ?_;rotate_left;(intro w';go_simp;with_reducible rfl);rotate_left;(simp only [Act.put,s1_,s2_,s3_,i64_w,i32_w];rfl)
             refine pu_ 1 (some 24) ?_ bm74_ rfl rfl HT_.1 (Or.inl ⟨by rfl,?_⟩) ?_ ?_ ?_;rotate_left;(intro w';go_simp;with_reducible rfl);rotate_left;(simp only [Act.put,s1_,s2_,s3_,i64_w,i32_w];rfl)
             refine pu_ 2 (some 25) ?_ bm75_ rfl rfl HT_.1 (Or.inl ⟨by rfl,?_⟩) ?_ ?_ ?_;rotate_left;(intro w';go_simp;with_reducible rfl);rotate_left;(simp only [Act.put,s1_,s2_,s3_,i64_w,i32_w];rfl)
             refine pu_ 3 (some 26) undef bm76_ rfl rfl HT_.1 (Or.inr ⟨by rfl,rfl⟩) ?_ ?_ ?_;rotate_left;(simp only [Act.put,s1_,s2_,s3_,i64_w,i32_w];rfl)
             refine pu_ 4 (some 27) undef bm77_ rfl rfl HT_.1 (Or.inr ⟨by rfl,rfl⟩) ?_ ?_ ?_;rotate_left;(simp only [Act.put,s1_,s2_,s3_,i64_w,i32_w];rfl)
             refine pu_ 5 (some 28) undef bm78_ rfl rfl HT_.1 (Or.inr ⟨by rfl,rfl⟩) ?_ ?_ ?_;rotate_left;(simp only [Act.put,s1_,s2_,s3_,i64_w,i32_w];rfl)
             refine pu_ 6 (some 29) ?_ bm79_ rfl rfl HT_.1 (Or.inl ⟨by rfl,?_⟩) ?_ ?_ ?_;rotate_left;(intro w';go_simp;with_reducible rfl);rotate_left;(simp only [Act.put,s1_,s2_,s3_,i64_w,i32_w];rfl)
             refine pu_ 7 (some 30) ?_ bm80_ rfl rfl HT_.1 (Or.inl ⟨by rfl,?_⟩) ?_ ?_ ?_;rotate_left;(intro w';go_simp;with_reducible rfl);rotate_left;(simp only [Act.put,s1_,s2_,s3_,i64_w,i32_w];rfl)
             refine pu_ 8 (some 31) ?_ bm81_ rfl rfl HT_.1 (Or.inl ⟨by rfl,?_⟩) ?_ ?_ ?_;rotate_left;(intro w';go_simp;with_reducible rfl);rotate_left;(simp only [Act.put,s1_,s2_,s3_,i64_w,i32_w];rfl)
             refine pu_ 9 (some 32) ?_ bm82_ rfl rfl HT_.1 (Or.inl ⟨by rfl,?_⟩) ?_ ?_ ?_;rotate_left;(intro w';go_simp;with_reducible rfl);rotate_left;(simp only [Act.put,s1_,s2_,s3_,i64_w,i32_w];rfl)
             refine pu_ 10 (some 33) ?_ bm83_ rfl rfl HT_.1 (Or.inl ⟨by rfl,?_⟩) ?_ ?_ ?_;rotate_left;(intro w';go_simp;with_reducible rfl);rotate_left;(simp only [Act.put,s1_,s2_,s3_,i64_w,i32_w];rfl)
             refine pu_ 11 (some 34) ?_ bm84_ rfl rfl HT_.1 (Or.inl ⟨by rfl,?_⟩) ?_ ?_ ?_;rotate_left;(intro w';go_simp;with_reducible rfl);rotate_left;(simp only [Act.put,s1_,s2_,s3_,i64_w,i32_w];rfl)
             refine pu_ 13 (some 36) ?_ bm128_ rfl rfl HT_.1 (Or.inl ⟨by rfl,?_⟩) ?_ ?_ ?_;rotate_left;(intro w';go_simp;with_reducible rfl);rotate_left;(simp only [Act.put,s1_,s2_,s3_,i64_w,i32_w];rfl)
             refine pu_ 14 (some 37) ?_ bm129_ rfl rfl HT_.1 (Or.inl ⟨by rfl,?_⟩) ?_ ?_ ?_;rotate_left;(intro w';go_simp;with_reducible rfl);rotate_left;(simp only [Act.put,s1_,s2_,s3_,i64_w,i32_w];rfl)
             refine pu_ 15 (some 38) ?_ bm130_ rfl rfl HT_.1 (Or.inl ⟨by rfl,?_⟩) ?_ ?_ ?_;rotate_left;(intro w';go_simp;with_reducible rfl);rotate_left;(simp only [Act.put,s1_,s2_,s3_,i64_w,i32_w];rfl)
             refine pu_ 16 (some 39) ?_ bm131_ rfl rfl HT_.1 (Or.inl ⟨by rfl,?_⟩) ?_ ?_ ?_;rotate_left;(intro w';go_simp;with_reducible rfl);rotate_left;(simp only [Act.put,s1_,s2_,s3_,i64_w,i32_w];rfl)
             refine pu_ 17 (some 40) ?_ bm132_ rfl rfl HT_.1 (Or.inl ⟨by rfl,?_⟩) ?_ ?_ ?_;rotate_left;(intro w';go_simp;with_reducible rfl);rotate_left;(simp only [Act.put,s1_,s2_,s3_,i64_w,i32_w];rfl)
             refine tu_ 12 (some 35) ?_ bm90_ rfl rfl HT_.1 HW_.1 (Or.inl ⟨by rfl,?_⟩) hHeld ?_ ?_ ?_;rotate_left;(rintro w' ⟨s0,s1,s2,s3,s4,s5,s6,s7,s8,s9,s10,s11,s12,s13,s14,s15⟩;go_simp;with_reducible rfl);rotate_left;(simp only [Act.put,s1_,s2_,s3_,i64_w,i32_w];rfl)
             refine tu_ 18 (some 41) ?_ bm91_ rfl rfl HT_.1 HW_.1 (Or.inl ⟨by rfl,?_⟩) hHeld ?_ ?_ ?_;rotate_left;(rintro w' ⟨s0,s1,s2,s3,s4,s5,s6,s7,s8,s9,s10,s11,s12,s13,s14,s15⟩;go_simp;with_reducible rfl);rotate_left;(simp only [Act.put,s1_,s2_,s3_,i64_w,i32_w];rfl)
             refine pu_ 19 (some 42) ?_ bm92_ rfl rfl HT_.1 (Or.inl ⟨by rfl,?_⟩) ?_ ?_ ?_;rotate_left;(intro w';go_simp;with_reducible rfl);rotate_left;(simp only [Act.put,s1_,s2_,s3_,i64_w,i32_w];rfl)
             refine pu_ 20 (some 43) ?_ bm93_ rfl rfl HT_.1 (Or.inl ⟨by rfl,?_⟩) ?_ ?_ ?_;rotate_left;(intro w';go_simp;with_reducible rfl);rotate_left;(simp only [Act.put,s1_,s2_,s3_,i64_w,i32_w];rfl)
             refine pu_ 21 (some 44) ?_ bm94_ rfl rfl HT_.1 (Or.inl ⟨by rfl,?_⟩) ?_ ?_ ?_;rotate_left;(intro w';go_simp;with_reducible rfl);rotate_left;(simp only [Act.put,s1_,s2_,s3_,i64_w,i32_w];rfl)
             refine pu_ 22 (some 45) ?_ bm95_ rfl rfl HT_.1 (Or.inl ⟨by rfl,?_⟩) ?_ ?_ ?_;rotate_left;(intro w';go_simp;with_reducible rfl);rotate_left;(simp only [Act.put,s1_,s2_,s3_,i64_w,i32_w];rfl)
             refine pu_ 23 (some 46) ?_ bm96_ rfl rfl HT_.1 (Or.inl ⟨by rfl,?_⟩) ?_ ?_ ?_;rotate_left;(intro w';go_simp;with_reducible rfl);rotate_left;(simp only [Act.put,s1_,s2_,s3_,i64_w,i32_w];rfl)
             refine pu_ 24 (some 47) ?_ bm97_ rfl rfl HT_.1 (Or.inl ⟨by rfl,?_⟩) ?_ ?_ ?_;rotate_left;(intro w';go_simp;with_reducible rfl);rotate_left;(simp only [Act.put,s1_,s2_,s3_,i64_w,i32_w];rfl)
             refine pu_ 25 (some 48) ?_ bm98_ rfl rfl HT_.1 (Or.inl ⟨by rfl,?_⟩) ?_ ?_ ?_;rotate_left;(intro w';go_simp;with_reducible rfl);rotate_left;(simp only [Act.put,s1_,s2_,s3_,i64_w,i32_w];rfl)
             refine pu_ 26 (some 49) ?_ bm99_ rfl rfl HT_.1 (Or.inl ⟨by rfl,?_⟩) ?_ ?_ ?_;rotate_left;(intro w';go_simp;with_reducible rfl);rotate_left;(simp only [Act.put,s1_,s2_,s3_,i64_w,i32_w];rfl)
             refine pu_ 29 (some 52) ?_ bm133_ rfl rfl HT_.1 (Or.inl ⟨by rfl,?_⟩) ?_ ?_ ?_;rotate_left;(intro w';go_simp;with_reducible rfl);rotate_left;(simp only [Act.put,s1_,s2_,s3_,i64_w,i32_w];rfl)
             refine pu_ 31 (some 54) ?_ bm134_ rfl rfl HT_.1 (Or.inl ⟨by rfl,?_⟩) ?_ ?_ ?_;rotate_left;(intro w';go_simp;with_reducible rfl);rotate_left;(simp only [Act.put,s1_,s2_,s3_,i64_w,i32_w];rfl)
             refine pu_ 32 (some 55) ?_ bm135_ rfl rfl HT_.1 (Or.inl ⟨by rfl,?_⟩) ?_ ?_ ?_;rotate_left;(intro w';go_simp;with_reducible rfl);rotate_left;(simp only [Act.put,s1_,s2_,s3_,i64_w,i32_w];rfl)
             refine pu_ 33 (some 56) ?_ bm136_ rfl rfl HT_.1 (Or.inl ⟨by rfl,?_⟩) ?_ ?_ ?_;rotate_left;(intro w';go_simp;with_reducible rfl);rotate_left;(simp only [Act.put,s1_,s2_,s3_,i64_w,i32_w];rfl)
             refine pu_ 34 (some 57) ?_ bm137_ rfl rfl HT_.1 (Or.inl ⟨by rfl,?_⟩) ?_ ?_ ?_;rotate_left;(intro w';go_simp;with_reducible rfl);rotate_left;(simp only [Act.put,s1_,s2_,s3_,i64_w,i32_w];rfl)
             refine pu_ 35 (some 58) ?_ bm138_ rfl rfl HT_.1 (Or.inl ⟨by rfl,?_⟩) ?_ ?_ ?_;rotate_left;(intro w';go_simp;with_reducible rfl);rotate_left;(simp only [Act.put,s1_,s2_,s3_,i64_w,i32_w];rfl)
             refine tu_ 27 (some 50) ?_ bm139_ rfl rfl HT_.1 HW_.1 (Or.inl ⟨by rfl,?_⟩) hHeld ?_ ?_ ?_;rotate_left;(rintro w' ⟨s0,s1,s2,s3,s4,s5,s6,s7,s8,s9,s10,s11,s12,s13,s14,s15⟩;go_simp;with_reducible rfl);rotate_left;(simp only [Act.put,s1_,s2_,s3_,i64_w,i32_w];rfl)
             refine tu_ 30 (some 53) ?_ bm140_ rfl rfl HT_.1 HW_.1 (Or.inl ⟨by rfl,?_⟩) hHeld ?_ ?_ ?_;rotate_left;(rintro w' ⟨s0,s1,s2,s3,s4,s5,s6,s7,s8,s9,s10,s11,s12,s13,s14,s15⟩;go_simp;with_reducible rfl);rotate_left;(simp only [Act.put,s1_,s2_,s3_,i64_w,i32_w];rfl)
             refine tu_ 36 (some 59) ?_ bm141_ rfl rfl HT_.1 HW_.1 (Or.inl ⟨by rfl,?_⟩) hHeld ?_ ?_ ?_;rotate_left;(rintro w' ⟨s0,s1,s2,s3,s4,s5,s6,s7,s8,s9,s10,s11,s12,s13,s14,s15⟩;go_simp;with_reducible rfl);rotate_left;(simp only [Act.put,s1_,s2_,s3_,i64_w,i32_w];rfl)
             refine pu_ 37 (some 60) ?_ bm142_ rfl rfl HT_.1 (Or.inl ⟨by rfl,?_⟩) ?_ ?_ ?_;rotate_left;(intro w';go_simp;with_reducible rfl);rotate_left;(simp only [Act.put,s1_,s2_,s3_,i64_w,i32_w];rfl)
             refine pu_ 38 (some 61) ?_ bm143_ rfl rfl HT_.1 (Or.inl ⟨by rfl,?_⟩) ?_ ?_ ?_;rotate_left;(intro w';go_simp;with_reducible rfl);rotate_left;(simp only [Act.put,s1_,s2_,s3_,i64_w,i32_w];rfl)
             refine one_ (i:=28) (N:=some 51) bm111_ rfl rfl (one_of HT_.out (by kernel_rfl)) (by decide) (fun K hK=>?_);refine goes_ Try.func158 (by kernel_rfl) rfl #[.int .i64 ((rd_T75 l1 (ji46)).f1)] (by rfl) rfl rfl (by (try simp only [List.map_toArray,List.map_cons,List.map_nil]);first | done | (simp only [hji46];rfl) | rfl | (simp only [List.length_drop,List.length_take];rfl)) ?_;(with_reducible refine (spec_opens.calls ((rd_T75 l1 (ji46)).f1) t14 _ A51.1).mono ?_);rintro e w' ⟨rfl,⟨nd,rfl⟩⟩;refine ⟨_,rfl,?_⟩;refine hK.out _ _ ⟨(blk_cell BK3.1 0).trans rfl,(blk_cell BK3.1 1).trans rfl,(blk_cell BK3.1 2).trans rfl,(blk_cell BK3.1 3).trans rfl,((HB.1.cell (World.block_lt_of_cell? w _ hw12_0)).trans hw12_0),((HB.1.cell (World.block_lt_of_cell? w _ hw12_1)).trans hw12_1),((HB.1.cell (World.block_lt_of_cell? w _ hw12_2)).trans hw12_2),((HB.1.cell (World.block_lt_of_cell? w _ hw12_3)).trans hw12_3),((HB.1.cell (World.block_lt_of_cell? w _ hw13_0)).trans hw13_0),((HB.1.cell (World.block_lt_of_cell? w _ hw13_1)).trans hw13_1),((HB.1.cell (World.block_lt_of_cell? w _ hw13_2)).trans hw13_2),((HB.1.cell (World.block_lt_of_cell? w _ hw13_3)).trans hw13_3),((HB.1.cell (World.block_lt_of_cell? w _ hw15_0)).trans hw15_0),((HB.1.cell (World.block_lt_of_cell? w _ hw15_1)).trans hw15_1),((HB.1.cell (World.block_lt_of_cell? w _ hw15_2)).trans hw15_2),((HB.1.cell (World.block_lt_of_cell? w _ hw15_3)).trans hw15_3)⟩ (fun hHeld=>?_);clear hK K;refine norm_ (a':=?_) ?_ ?_;rotate_left
             ·show Act.put _ (some 51) _ = _
              simp only [Act.put,s1_,s2_,s3_,i64_w,i32_w];rfl
             refine pu_ 39 (some 62) ?_ bm112_ rfl rfl HT_.1 (Or.inl ⟨by rfl,?_⟩) ?_ ?_ ?_;rotate_left;(intro w';go_simp;with_reducible rfl);rotate_left;(simp only [Act.put,s1_,s2_,s3_,i64_w,i32_w];rfl)
             refine pu_ 40 (some 63) ?_ bm113_ rfl rfl HT_.1 (Or.inl ⟨by rfl,?_⟩) ?_ ?_ ?_;rotate_left;(intro w';go_simp;with_reducible rfl);rotate_left;(simp only [Act.put,s1_,s2_,s3_,i64_w,i32_w];rfl)
             refine pu_ 41 (some 64) ?_ bm114_ rfl rfl HT_.1 (Or.inl ⟨by rfl,?_⟩) ?_ ?_ ?_;rotate_left;(intro w';go_simp;with_reducible rfl);rotate_left;(simp only [Act.put,s1_,s2_,s3_,i64_w,i32_w];rfl)
             refine pu_ 42 (some 65) ?_ bm115_ rfl rfl HT_.1 (Or.inl ⟨by rfl,?_⟩) ?_ ?_ ?_;rotate_left;(intro w';go_simp;with_reducible rfl);rotate_left;(simp only [Act.put,s1_,s2_,s3_,i64_w,i32_w];rfl)
             refine pu_ 43 (some 66) ?_ bm116_ rfl rfl HT_.1 (Or.inl ⟨by rfl,?_⟩) ?_ ?_ ?_;rotate_left;(intro w';go_simp;with_reducible rfl);rotate_left;(simp only [Act.put,s1_,s2_,s3_,i64_w,i32_w];rfl)
             refine pu_ 44 (some 67) undef bm117_ rfl rfl HT_.1 (Or.inr ⟨by rfl,rfl⟩) ?_ ?_ ?_;rotate_left;(simp only [Act.put,s1_,s2_,s3_,i64_w,i32_w];rfl)
             refine pu_ 45 (some 68) undef bm118_ rfl rfl HT_.1 (Or.inr ⟨by rfl,rfl⟩) ?_ ?_ ?_;rotate_left;(simp only [Act.put,s1_,s2_,s3_,i64_w,i32_w];rfl)
             refine pu_ 46 (some 69) undef bm119_ rfl rfl HT_.1 (Or.inr ⟨by rfl,rfl⟩) ?_ ?_ ?_;rotate_left;(simp only [Act.put,s1_,s2_,s3_,i64_w,i32_w];rfl)
             refine pu_ 47 (some 70) undef bm120_ rfl rfl HT_.1 (Or.inr ⟨by rfl,rfl⟩) ?_ ?_ ?_;rotate_left;(simp only [Act.put,s1_,s2_,s3_,i64_w,i32_w];rfl)
             refine pu_ 48 (some 71) undef bm121_ rfl rfl HT_.1 (Or.inr ⟨by rfl,rfl⟩) ?_ ?_ ?_;rotate_left;(simp only [Act.put,s1_,s2_,s3_,i64_w,i32_w];rfl)
             refine pu_ 49 (some 72) undef bm122_ rfl rfl HT_.1 (Or.inr ⟨by rfl,rfl⟩) ?_ ?_ ?_;rotate_left;(simp only [Act.put,s1_,s2_,s3_,i64_w,i32_w];rfl)
             refine pu_ 50 (some 73) undef bm123_ rfl rfl HT_.1 (Or.inr ⟨by rfl,rfl⟩) ?_ ?_ ?_;rotate_left;(simp only [Act.put,s1_,s2_,s3_,i64_w,i32_w];rfl)
             refine pu_ 51 (some 74) undef bm124_ rfl rfl HT_.1 (Or.inr ⟨by rfl,rfl⟩) ?_ ?_ ?_;rotate_left;(simp only [Act.put,s1_,s2_,s3_,i64_w,i32_w];rfl)
             refine pu_ 52 (some 75) undef bm125_ rfl rfl HT_.1 (Or.inr ⟨by rfl,rfl⟩) ?_ ?_ ?_;rotate_left;(simp only [Act.put,s1_,s2_,s3_,i64_w,i32_w];rfl)
             refine pu_ 53 (some 76) undef bm126_ rfl rfl HT_.1 (Or.inr ⟨by rfl,rfl⟩) ?_ ?_ ?_;rotate_left;(simp only [Act.put,s1_,s2_,s3_,i64_w,i32_w];rfl)
             refine pu_ 54 (some 77) ?_ bm127_ rfl rfl HT_.1 (Or.inl ⟨by rfl,?_⟩) ?_ ?_ ?_;rotate_left;(intro w';go_simp;with_reducible rfl);rotate_left;(simp only [Act.put,s1_,s2_,s3_,i64_w,i32_w];rfl)
             refine done_ (done_of HT_.out (by kernel_rfl)) ?_;(try go_wp2);go_meet
             case rel=>exact ⟨_,(true),(by first | rfl | (simp;done) | (simp [*];done)),H',⟨by have:=HJ5.out;first | omega | exact Nat.le_refl _⟩,⟨by (with_reducible repeat (first | refine blk_drewN ?_ _ | refine blk_drew ?_ | refine blk_alloc ?_ _));exact BK1.1⟩,⟨by (with_reducible repeat (first | refine blk_drewN ?_ _ | refine blk_drew ?_ | refine blk_alloc ?_ _));exact BK3.1⟩,⟨hbw_⟩⟩
            ·rw [if_neg c52] at H
             have c52b0 : (t14 != (((rd_T75 l1 a2).f0) == (wrap64 (((rd_T75 l1 (ji46)).f0) + 1)))) = false:=by simpa using c52
             (try (have c52b1 : decide (t14 = (((rd_T75 l1 a2).f0) == (wrap64 (((rd_T75 l1 (ji46)).f0) + 1)))) = true:=by simpa using c52));(try (have c52b2 : (t14 == (((rd_T75 l1 a2).f0) == (wrap64 (((rd_T75 l1 (ji46)).f0) + 1)))) = true:=by simpa using c52));clear c52;by_cases c54 : (wrap64 (a2 + 1)) = (l1.length : Int)
             ·rw [if_pos c54] at H
              have c54b0 : ((wrap64 (a2 + 1)) == (l1.length : Int)) = true:=beq_iff_eq.mpr c54;have c54b1 : ((wrap64 (a2 + 1)) != (l1.length : Int)) = false:=bne_eq_false_iff_eq.mpr c54;clear c54;replace H:=Option.bind_eq_some_iff.mp H;obtain ⟨t16,A550,H⟩:=H;(try dsimp only at H);have A55:=a0_ A550;clear A550;have H':=a0_ H;clear H;(try go_wp2);have n0_:=a0_ (blk_drew BK1.1);have n1_:=a0_ (blk_drew BK3.1);have n2_:=a0_ (below_drew1 HB.1);clear BK1;clear BK3;clear HB;have BK1:=n0_;have BK3:=n1_;have HB:=n2_;clear n0_ n1_ n2_;have p12 : 0 ≤ ((ji46) : Int):=od_;have q12 : (ji46) < (l1.length : Int):=od_;obtain ⟨ad12,e12,hx12_0,hx12_1,hx12_2,hx12_3⟩:=at_T75 HR1.1 (ji46) p12 q12;have hw12_3:=hx12_3;have hw12_2:=hx12_2;have hw12_1:=hx12_1;have hw12_0:=hx12_0;obtain rfl : ad2 = ad12:=(by injection e12);replace hx12_0:=cl_ HB.1 hx12_0;replace hx12_1:=cl_ HB.1 hx12_1;replace hx12_2:=cl_ HB.1 hx12_2;replace hx12_3:=cl_ HB.1 hx12_3;replace p12:=eq_true p12;replace q12:=eq_true q12;have p13 : 0 ≤ ((ji46) : Int):=od_;have q13 : (ji46) < (l1.length : Int):=od_;obtain ⟨ad13,e13,hx13_0,hx13_1,hx13_2,hx13_3⟩:=at_T75 HR1.1 (ji46) p13 q13;have hw13_3:=hx13_3;have hw13_2:=hx13_2;have hw13_1:=hx13_1;have hw13_0:=hx13_0;obtain rfl : ad2 = ad13:=(by injection e13);replace hx13_0:=cl_ HB.1 hx13_0;replace hx13_1:=cl_ HB.1 hx13_1;replace hx13_2:=cl_ HB.1 hx13_2;replace hx13_3:=cl_ HB.1 hx13_3;replace p13:=eq_true p13;replace q13:=eq_true q13;have p15 : 0 ≤ ((ji46) : Int):=od_;have q15 : (ji46) < (l1.length : Int):=od_;obtain ⟨ad15,e15,hx15_0,hx15_1,hx15_2,hx15_3⟩:=at_T75 HR1.1 (ji46) p15 q15;have hw15_3:=hx15_3;have hw15_2:=hx15_2;have hw15_1:=hx15_1;have hw15_0:=hx15_0;obtain rfl : ad2 = ad15:=(by injection e15);replace hx15_0:=cl_ HB.1 hx15_0;replace hx15_1:=cl_ HB.1 hx15_1;replace hx15_2:=cl_ HB.1 hx15_2;replace hx15_3:=cl_ HB.1 hx15_3;replace p15:=eq_true p15;replace q15:=eq_true q15;refine start_ (n:=55) (S:=fun w'=>w'.cell? ⟨gb3,0,none⟩ = some (.int .i64 ((rd_T75 l1 a2).f0)) ∧ w'.cell? ⟨gb3,1,none⟩ = some (.int .i64 ((rd_T75 l1 a2).f1)) ∧ w'.cell? ⟨gb3,2,none⟩ = some (.int .i64 ((rd_T75 l1 a2).f2)) ∧ w'.cell? ⟨gb3,3,none⟩ = some (.int .i64 ((rd_T75 l1 a2).f3)) ∧ w'.cell? (ad2.add (((ji46)).toNat * 4)) = some (.int .i64 ((rd_T75 l1 (ji46)).f0)) ∧ w'.cell? ⟨(ad2.add (((ji46)).toNat * 4)).block,(ad2.add (((ji46)).toNat * 4)).off + 1,none⟩ = some (.int .i64 ((rd_T75 l1 (ji46)).f1)) ∧ w'.cell? ⟨(ad2.add (((ji46)).toNat * 4)).block,(ad2.add (((ji46)).toNat * 4)).off + 2,none⟩ = some (.int .i64 ((rd_T75 l1 (ji46)).f2)) ∧ w'.cell? ⟨(ad2.add (((ji46)).toNat * 4)).block,(ad2.add (((ji46)).toNat * 4)).off + 3,none⟩ = some (.int .i64 ((rd_T75 l1 (ji46)).f3)) ∧ w'.cell? (ad2.add (((ji46)).toNat * 4)) = some (.int .i64 ((rd_T75 l1 (ji46)).f0)) ∧ w'.cell? ⟨(ad2.add (((ji46)).toNat * 4)).block,(ad2.add (((ji46)).toNat * 4)).off + 1,none⟩ = some (.int .i64 ((rd_T75 l1 (ji46)).f1)) ∧ w'.cell? ⟨(ad2.add (((ji46)).toNat * 4)).block,(ad2.add (((ji46)).toNat * 4)).off + 2,none⟩ = some (.int .i64 ((rd_T75 l1 (ji46)).f2)) ∧ w'.cell? ⟨(ad2.add (((ji46)).toNat * 4)).block,(ad2.add (((ji46)).toNat * 4)).off + 3,none⟩ = some (.int .i64 ((rd_T75 l1 (ji46)).f3)) ∧ w'.cell? (ad2.add (((ji46)).toNat * 4)) = some (.int .i64 ((rd_T75 l1 (ji46)).f0)) ∧ w'.cell? ⟨(ad2.add (((ji46)).toNat * 4)).block,(ad2.add (((ji46)).toNat * 4)).off + 1,none⟩ = some (.int .i64 ((rd_T75 l1 (ji46)).f1)) ∧ w'.cell? ⟨(ad2.add (((ji46)).toNat * 4)).block,(ad2.add (((ji46)).toNat * 4)).off + 2,none⟩ = some (.int .i64 ((rd_T75 l1 (ji46)).f2)) ∧ w'.cell? ⟨(ad2.add (((ji46)).toNat * 4)).block,(ad2.add (((ji46)).toNat * 4)).off + 3,none⟩ = some (.int .i64 ((rd_T75 l1 (ji46)).f3))) (ds:=[]) bm72_ (by kernel_rfl) rfl rfl ⟨(blk_cell BK3.1 0).trans rfl,(blk_cell BK3.1 1).trans rfl,(blk_cell BK3.1 2).trans rfl,(blk_cell BK3.1 3).trans rfl,((HB.1.cell (World.block_lt_of_cell? w _ hw12_0)).trans hw12_0),((HB.1.cell (World.block_lt_of_cell? w _ hw12_1)).trans hw12_1),((HB.1.cell (World.block_lt_of_cell? w _ hw12_2)).trans hw12_2),((HB.1.cell (World.block_lt_of_cell? w _ hw12_3)).trans hw12_3),((HB.1.cell (World.block_lt_of_cell? w _ hw13_0)).trans hw13_0),((HB.1.cell (World.block_lt_of_cell? w _ hw13_1)).trans hw13_1),((HB.1.cell (World.block_lt_of_cell? w _ hw13_2)).trans hw13_2),((HB.1.cell (World.block_lt_of_cell? w _ hw13_3)).trans hw13_3),((HB.1.cell (World.block_lt_of_cell? w _ hw15_0)).trans hw15_0),((HB.1.cell (World.block_lt_of_cell? w _ hw15_1)).trans hw15_1),((HB.1.cell (World.block_lt_of_cell? w _ hw15_2)).trans hw15_2),((HB.1.cell (World.block_lt_of_cell? w _ hw15_3)).trans hw15_3)⟩ (fun hHeld=>?_);refine with_tabW spec_validLine.tab4 spec_validLine.bits4 (fun HT_ HW_=>?_);generalize wc.drew = w56 at BK1 BK3 HB hx12_0 hx12_1 hx12_2 hx12_3 hx13_0 hx13_1 hx13_2 hx13_3 hx15_0 hx15_1 hx15_2 hx15_3 hHeld ⊢;refine pu_ 0 (some 23) ?_ bm73_ rfl rfl HT_.1 (Or.inl ⟨by rfl,?_⟩) ?_ ?_ ?_;rotate_left;(intro w';go_simp;with_reducible rfl);rotate_left;(simp only [Act.put,s1_,s2_,s3_,i64_w,i32_w];rfl)
              refine pu_ 1 (some 24) ?_ bm74_ rfl rfl HT_.1 (Or.inl ⟨by rfl,?_⟩) ?_ ?_ ?_;rotate_left;(intro w';go_simp;with_reducible rfl);rotate_left;(simp only [Act.put,s1_,s2_,s3_,i64_w,i32_w];rfl)
              refine pu_ 2 (some 25) ?_ bm75_ rfl rfl HT_.1 (Or.inl ⟨by rfl,?_⟩) ?_ ?_ ?_;rotate_left;(intro w';go_simp;with_reducible rfl);rotate_left;(simp only [Act.put,s1_,s2_,s3_,i64_w,i32_w];rfl)
              refine pu_ 3 (some 26) undef bm76_ rfl rfl HT_.1 (Or.inr ⟨by rfl,rfl⟩) ?_ ?_ ?_;rotate_left;(simp only [Act.put,s1_,s2_,s3_,i64_w,i32_w];rfl)
              refine pu_ 4 (some 27) undef bm77_ rfl rfl HT_.1 (Or.inr ⟨by rfl,rfl⟩) ?_ ?_ ?_;rotate_left;(simp only [Act.put,s1_,s2_,s3_,i64_w,i32_w];rfl)
              refine pu_ 5 (some 28) undef bm78_ rfl rfl HT_.1 (Or.inr ⟨by rfl,rfl⟩) ?_ ?_ ?_;rotate_left;(simp only [Act.put,s1_,s2_,s3_,i64_w,i32_w];rfl)
              refine pu_ 6 (some 29) ?_ bm79_ rfl rfl HT_.1 (Or.inl ⟨by rfl,?_⟩) ?_ ?_ ?_;rotate_left;(intro w';go_simp;with_reducible rfl);rotate_left;(simp only [Act.put,s1_,s2_,s3_,i64_w,i32_w];rfl)
              refine pu_ 7 (some 30) ?_ bm80_ rfl rfl HT_.1 (Or.inl ⟨by rfl,?_⟩) ?_ ?_ ?_;rotate_left;(intro w';go_simp;with_reducible rfl);rotate_left;(simp only [Act.put,s1_,s2_,s3_,i64_w,i32_w];rfl)
              refine pu_ 8 (some 31) ?_ bm81_ rfl rfl HT_.1 (Or.inl ⟨by rfl,?_⟩) ?_ ?_ ?_;rotate_left;(intro w';go_simp;with_reducible rfl);rotate_left;(simp only [Act.put,s1_,s2_,s3_,i64_w,i32_w];rfl)
              refine pu_ 9 (some 32) ?_ bm82_ rfl rfl HT_.1 (Or.inl ⟨by rfl,?_⟩) ?_ ?_ ?_;rotate_left;(intro w';go_simp;with_reducible rfl);rotate_left;(simp only [Act.put,s1_,s2_,s3_,i64_w,i32_w];rfl)
              refine pu_ 10 (some 33) ?_ bm83_ rfl rfl HT_.1 (Or.inl ⟨by rfl,?_⟩) ?_ ?_ ?_;rotate_left;(intro w';go_simp;with_reducible rfl);rotate_left;(simp only [Act.put,s1_,s2_,s3_,i64_w,i32_w];rfl)
              refine pu_ 11 (some 34) ?_ bm84_ rfl rfl HT_.1 (Or.inl ⟨by rfl,?_⟩) ?_ ?_ ?_;rotate_left;(intro w';go_simp;with_reducible rfl);rotate_left;(simp only [Act.put,s1_,s2_,s3_,i64_w,i32_w];rfl)
              refine pu_ 13 (some 36) ?_ bm128_ rfl rfl HT_.1 (Or.inl ⟨by rfl,?_⟩) ?_ ?_ ?_;rotate_left;(intro w';go_simp;with_reducible rfl);rotate_left;(simp only [Act.put,s1_,s2_,s3_,i64_w,i32_w];rfl)
              refine pu_ 14 (some 37) ?_ bm129_ rfl rfl HT_.1 (Or.inl ⟨by rfl,?_⟩) ?_ ?_ ?_;rotate_left;(intro w';go_simp;with_reducible rfl);rotate_left;(simp only [Act.put,s1_,s2_,s3_,i64_w,i32_w];rfl)
              refine pu_ 15 (some 38) ?_ bm130_ rfl rfl HT_.1 (Or.inl ⟨by rfl,?_⟩) ?_ ?_ ?_;rotate_left;(intro w';go_simp;with_reducible rfl);rotate_left;(simp only [Act.put,s1_,s2_,s3_,i64_w,i32_w];rfl)
              refine pu_ 16 (some 39) ?_ bm131_ rfl rfl HT_.1 (Or.inl ⟨by rfl,?_⟩) ?_ ?_ ?_;rotate_left;(intro w';go_simp;with_reducible rfl);rotate_left;(simp only [Act.put,s1_,s2_,s3_,i64_w,i32_w];rfl)
              refine pu_ 17 (some 40) ?_ bm132_ rfl rfl HT_.1 (Or.inl ⟨by rfl,?_⟩) ?_ ?_ ?_;rotate_left;(intro w';go_simp;with_reducible rfl);rotate_left;(simp only [Act.put,s1_,s2_,s3_,i64_w,i32_w];rfl)
              refine tu_ 12 (some 35) ?_ bm90_ rfl rfl HT_.1 HW_.1 (Or.inl ⟨by rfl,?_⟩) hHeld ?_ ?_ ?_;rotate_left;(rintro w' ⟨s0,s1,s2,s3,s4,s5,s6,s7,s8,s9,s10,s11,s12,s13,s14,s15⟩;go_simp;with_reducible rfl);rotate_left;(simp only [Act.put,s1_,s2_,s3_,i64_w,i32_w];rfl)
              refine tu_ 18 (some 41) ?_ bm91_ rfl rfl HT_.1 HW_.1 (Or.inl ⟨by rfl,?_⟩) hHeld ?_ ?_ ?_;rotate_left;(rintro w' ⟨s0,s1,s2,s3,s4,s5,s6,s7,s8,s9,s10,s11,s12,s13,s14,s15⟩;go_simp;with_reducible rfl);rotate_left;(simp only [Act.put,s1_,s2_,s3_,i64_w,i32_w];rfl)
              refine pu_ 19 (some 42) ?_ bm92_ rfl rfl HT_.1 (Or.inl ⟨by rfl,?_⟩) ?_ ?_ ?_;rotate_left;(intro w';go_simp;with_reducible rfl);rotate_left;(simp only [Act.put,s1_,s2_,s3_,i64_w,i32_w];rfl)
              refine pu_ 20 (some 43) ?_ bm93_ rfl rfl HT_.1 (Or.inl ⟨by rfl,?_⟩) ?_ ?_ ?_;rotate_left;(intro w';go_simp;with_reducible rfl);rotate_left;(simp only [Act.put,s1_,s2_,s3_,i64_w,i32_w];rfl)
              refine pu_ 21 (some 44) ?_ bm94_ rfl rfl HT_.1 (Or.inl ⟨by rfl,?_⟩) ?_ ?_ ?_;rotate_left;(intro w';go_simp;with_reducible rfl);rotate_left;(simp only [Act.put,s1_,s2_,s3_,i64_w,i32_w];rfl)
              refine pu_ 22 (some 45) ?_ bm95_ rfl rfl HT_.1 (Or.inl ⟨by rfl,?_⟩) ?_ ?_ ?_;rotate_left;(intro w';go_simp;with_reducible rfl);rotate_left;(simp only [Act.put,s1_,s2_,s3_,i64_w,i32_w];rfl)
              refine pu_ 23 (some 46) ?_ bm96_ rfl rfl HT_.1 (Or.inl ⟨by rfl,?_⟩) ?_ ?_ ?_;rotate_left;(intro w';go_simp;with_reducible rfl);rotate_left;(simp only [Act.put,s1_,s2_,s3_,i64_w,i32_w];rfl)
              refine pu_ 24 (some 47) ?_ bm97_ rfl rfl HT_.1 (Or.inl ⟨by rfl,?_⟩) ?_ ?_ ?_;rotate_left;(intro w';go_simp;with_reducible rfl);rotate_left;(simp only [Act.put,s1_,s2_,s3_,i64_w,i32_w];rfl)
              refine pu_ 25 (some 48) ?_ bm98_ rfl rfl HT_.1 (Or.inl ⟨by rfl,?_⟩) ?_ ?_ ?_;rotate_left;(intro w';go_simp;with_reducible rfl);rotate_left;(simp only [Act.put,s1_,s2_,s3_,i64_w,i32_w];rfl)
              refine pu_ 26 (some 49) ?_ bm99_ rfl rfl HT_.1 (Or.inl ⟨by rfl,?_⟩) ?_ ?_ ?_;rotate_left;(intro w';go_simp;with_reducible rfl);rotate_left;(simp only [Act.put,s1_,s2_,s3_,i64_w,i32_w];rfl)
              refine pu_ 29 (some 52) ?_ bm133_ rfl rfl HT_.1 (Or.inl ⟨by rfl,?_⟩) ?_ ?_ ?_;rotate_left;(intro w';go_simp;with_reducible rfl);rotate_left;(simp only [Act.put,s1_,s2_,s3_,i64_w,i32_w];rfl)
              refine pu_ 31 (some 54) ?_ bm134_ rfl rfl HT_.1 (Or.inl ⟨by rfl,?_⟩) ?_ ?_ ?_;rotate_left;(intro w';go_simp;with_reducible rfl);rotate_left;(simp only [Act.put,s1_,s2_,s3_,i64_w,i32_w];rfl)
              refine pu_ 32 (some 55) ?_ bm135_ rfl rfl HT_.1 (Or.inl ⟨by rfl,?_⟩) ?_ ?_ ?_;rotate_left;(intro w';go_simp;with_reducible rfl);rotate_left;(simp only [Act.put,s1_,s2_,s3_,i64_w,i32_w];rfl)
              refine pu_ 33 (some 56) ?_ bm136_ rfl rfl HT_.1 (Or.inl ⟨by rfl,?_⟩) ?_ ?_ ?_;rotate_left;(intro w';go_simp;with_reducible rfl);rotate_left;(simp only [Act.put,s1_,s2_,s3_,i64_w,i32_w];rfl)
              refine pu_ 34 (some 57) ?_ bm137_ rfl rfl HT_.1 (Or.inl ⟨by rfl,?_⟩) ?_ ?_ ?_;rotate_left;(intro w';go_simp;with_reducible rfl);rotate_left;(simp only [Act.put,s1_,s2_,s3_,i64_w,i32_w];rfl)
              refine pu_ 35 (some 58) ?_ bm138_ rfl rfl HT_.1 (Or.inl ⟨by rfl,?_⟩) ?_ ?_ ?_;rotate_left;(intro w';go_simp;with_reducible rfl);rotate_left;(simp only [Act.put,s1_,s2_,s3_,i64_w,i32_w];rfl)
              refine tu_ 27 (some 50) ?_ bm139_ rfl rfl HT_.1 HW_.1 (Or.inl ⟨by rfl,?_⟩) hHeld ?_ ?_ ?_;rotate_left;(rintro w' ⟨s0,s1,s2,s3,s4,s5,s6,s7,s8,s9,s10,s11,s12,s13,s14,s15⟩;go_simp;with_reducible rfl);rotate_left;(simp only [Act.put,s1_,s2_,s3_,i64_w,i32_w];rfl)
              refine tu_ 30 (some 53) ?_ bm140_ rfl rfl HT_.1 HW_.1 (Or.inl ⟨by rfl,?_⟩) hHeld ?_ ?_ ?_;rotate_left;(rintro w' ⟨s0,s1,s2,s3,s4,s5,s6,s7,s8,s9,s10,s11,s12,s13,s14,s15⟩;go_simp;with_reducible rfl);rotate_left;(simp only [Act.put,s1_,s2_,s3_,i64_w,i32_w];rfl)
              refine tu_ 36 (some 59) ?_ bm141_ rfl rfl HT_.1 HW_.1 (Or.inl ⟨by rfl,?_⟩) hHeld ?_ ?_ ?_;rotate_left;(rintro w' ⟨s0,s1,s2,s3,s4,s5,s6,s7,s8,s9,s10,s11,s12,s13,s14,s15⟩;go_simp;with_reducible rfl);rotate_left;(simp only [Act.put,s1_,s2_,s3_,i64_w,i32_w];rfl)
              refine pu_ 37 (some 60) ?_ bm142_ rfl rfl HT_.1 (Or.inl ⟨by rfl,?_⟩) ?_ ?_ ?_;rotate_left;(intro w';go_simp;with_reducible rfl);rotate_left;(simp only [Act.put,s1_,s2_,s3_,i64_w,i32_w];rfl)
              refine pu_ 38 (some 61) ?_ bm143_ rfl rfl HT_.1 (Or.inl ⟨by rfl,?_⟩) ?_ ?_ ?_;rotate_left;(intro w';go_simp;with_reducible rfl);rotate_left;(simp only [Act.put,s1_,s2_,s3_,i64_w,i32_w];rfl)
              refine one_ (i:=28) (N:=some 51) bm111_ rfl rfl (one_of HT_.out (by kernel_rfl)) (by decide) (fun K hK=>?_);refine goes_ Try.func158 (by kernel_rfl) rfl #[.int .i64 ((rd_T75 l1 (ji46)).f1)] (by rfl) rfl rfl (by (try simp only [List.map_toArray,List.map_cons,List.map_nil]);first | done | (simp only [hji46];rfl) | rfl | (simp only [List.length_drop,List.length_take];rfl)) ?_;(with_reducible refine (spec_opens.calls ((rd_T75 l1 (ji46)).f1) t14 _ A51.1).mono ?_);rintro e w' ⟨rfl,⟨nd,rfl⟩⟩;refine ⟨_,rfl,?_⟩;refine hK.out _ _ ⟨(blk_cell BK3.1 0).trans rfl,(blk_cell BK3.1 1).trans rfl,(blk_cell BK3.1 2).trans rfl,(blk_cell BK3.1 3).trans rfl,((HB.1.cell (World.block_lt_of_cell? w _ hw12_0)).trans hw12_0),((HB.1.cell (World.block_lt_of_cell? w _ hw12_1)).trans hw12_1),((HB.1.cell (World.block_lt_of_cell? w _ hw12_2)).trans hw12_2),((HB.1.cell (World.block_lt_of_cell? w _ hw12_3)).trans hw12_3),((HB.1.cell (World.block_lt_of_cell? w _ hw13_0)).trans hw13_0),((HB.1.cell (World.block_lt_of_cell? w _ hw13_1)).trans hw13_1),((HB.1.cell (World.block_lt_of_cell? w _ hw13_2)).trans hw13_2),((HB.1.cell (World.block_lt_of_cell? w _ hw13_3)).trans hw13_3),((HB.1.cell (World.block_lt_of_cell? w _ hw15_0)).trans hw15_0),((HB.1.cell (World.block_lt_of_cell? w _ hw15_1)).trans hw15_1),((HB.1.cell (World.block_lt_of_cell? w _ hw15_2)).trans hw15_2),((HB.1.cell (World.block_lt_of_cell? w _ hw15_3)).trans hw15_3)⟩ (fun hHeld=>?_);clear hK K;refine norm_ (a':=?_) ?_ ?_;rotate_left
              ·show Act.put _ (some 51) _ = _
               simp only [Act.put,s1_,s2_,s3_,i64_w,i32_w];rfl
              refine pu_ 39 (some 62) ?_ bm112_ rfl rfl HT_.1 (Or.inl ⟨by rfl,?_⟩) ?_ ?_ ?_;rotate_left;(intro w';go_simp;with_reducible rfl);rotate_left;(simp only [Act.put,s1_,s2_,s3_,i64_w,i32_w];rfl)
              refine pu_ 40 (some 63) ?_ bm113_ rfl rfl HT_.1 (Or.inl ⟨by rfl,?_⟩) ?_ ?_ ?_;rotate_left;(intro w';go_simp;with_reducible rfl);rotate_left;(simp only [Act.put,s1_,s2_,s3_,i64_w,i32_w];rfl)
              refine pu_ 41 (some 64) ?_ bm114_ rfl rfl HT_.1 (Or.inl ⟨by rfl,?_⟩) ?_ ?_ ?_;rotate_left;(intro w';go_simp;with_reducible rfl);rotate_left;(simp only [Act.put,s1_,s2_,s3_,i64_w,i32_w];rfl)
              refine pu_ 42 (some 65) ?_ bm115_ rfl rfl HT_.1 (Or.inl ⟨by rfl,?_⟩) ?_ ?_ ?_;rotate_left;(intro w';go_simp;with_reducible rfl);rotate_left;(simp only [Act.put,s1_,s2_,s3_,i64_w,i32_w];rfl)
              refine pu_ 43 (some 66) ?_ bm116_ rfl rfl HT_.1 (Or.inl ⟨by rfl,?_⟩) ?_ ?_ ?_;rotate_left;(intro w';go_simp;with_reducible rfl);rotate_left;(simp only [Act.put,s1_,s2_,s3_,i64_w,i32_w];rfl)
              refine pu_ 44 (some 67) ?_ bm117_ rfl rfl HT_.1 (Or.inl ⟨by rfl,?_⟩) ?_ ?_ ?_;rotate_left;(intro w';go_simp;with_reducible rfl);rotate_left;(simp only [Act.put,s1_,s2_,s3_,i64_w,i32_w];rfl)
              refine pu_ 45 (some 68) ?_ bm118_ rfl rfl HT_.1 (Or.inl ⟨by rfl,?_⟩) ?_ ?_ ?_;rotate_left;(intro w';go_simp;with_reducible rfl);rotate_left;(simp only [Act.put,s1_,s2_,s3_,i64_w,i32_w];rfl)
              refine pu_ 46 (some 69) ?_ bm119_ rfl rfl HT_.1 (Or.inl ⟨by rfl,?_⟩) ?_ ?_ ?_;rotate_left;(intro w';go_simp;with_reducible rfl);rotate_left;(simp only [Act.put,s1_,s2_,s3_,i64_w,i32_w];rfl)
              refine pu_ 47 (some 70) ?_ bm120_ rfl rfl HT_.1 (Or.inl ⟨by rfl,?_⟩) ?_ ?_ ?_;rotate_left;(intro w';go_simp;with_reducible rfl);rotate_left;(simp only [Act.put,s1_,s2_,s3_,i64_w,i32_w];rfl)
              refine pu_ 48 (some 71) ?_ bm121_ rfl rfl HT_.1 (Or.inl ⟨by rfl,?_⟩) ?_ ?_ ?_;rotate_left;(intro w';go_simp;with_reducible rfl);rotate_left;(simp only [Act.put,s1_,s2_,s3_,i64_w,i32_w];rfl)
              refine pu_ 49 (some 72) ?_ bm122_ rfl rfl HT_.1 (Or.inl ⟨by rfl,?_⟩) ?_ ?_ ?_;rotate_left;(intro w';go_simp;with_reducible rfl);rotate_left;(simp only [Act.put,s1_,s2_,s3_,i64_w,i32_w];rfl)
              refine pu_ 50 (some 73) ?_ bm123_ rfl rfl HT_.1 (Or.inl ⟨by rfl,?_⟩) ?_ ?_ ?_;rotate_left;(intro w';go_simp;with_reducible rfl);rotate_left;(simp only [Act.put,s1_,s2_,s3_,i64_w,i32_w];rfl)
              refine tu_ 51 (some 74) ?_ bm124_ rfl rfl HT_.1 HW_.1 (Or.inl ⟨by rfl,?_⟩) hHeld ?_ ?_ ?_;rotate_left;(rintro w' ⟨s0,s1,s2,s3,s4,s5,s6,s7,s8,s9,s10,s11,s12,s13,s14,s15⟩;go_simp;with_reducible rfl);rotate_left;(simp only [Act.put,s1_,s2_,s3_,i64_w,i32_w];rfl)
              refine one_ (i:=52) (N:=some 75) bm125_ rfl rfl (one_of HT_.out (by kernel_rfl)) (by decide) (fun K hK=>?_);refine goes_ Try.func158 (by kernel_rfl) rfl #[.int .i64 ((rd_T75 l1 a2).f1)] (by rfl) rfl rfl lm_ ?_;(with_reducible refine (spec_opens.calls ((rd_T75 l1 a2).f1) t16 _ A55.1).mono ?_);rintro e w' ⟨rfl,⟨nd,rfl⟩⟩;refine ⟨_,rfl,?_⟩;refine hK.out _ _ ⟨(blk_cell BK3.1 0).trans rfl,(blk_cell BK3.1 1).trans rfl,(blk_cell BK3.1 2).trans rfl,(blk_cell BK3.1 3).trans rfl,((HB.1.cell (World.block_lt_of_cell? w _ hw12_0)).trans hw12_0),((HB.1.cell (World.block_lt_of_cell? w _ hw12_1)).trans hw12_1),((HB.1.cell (World.block_lt_of_cell? w _ hw12_2)).trans hw12_2),((HB.1.cell (World.block_lt_of_cell? w _ hw12_3)).trans hw12_3),((HB.1.cell (World.block_lt_of_cell? w _ hw13_0)).trans hw13_0),((HB.1.cell (World.block_lt_of_cell? w _ hw13_1)).trans hw13_1),((HB.1.cell (World.block_lt_of_cell? w _ hw13_2)).trans hw13_2),((HB.1.cell (World.block_lt_of_cell? w _ hw13_3)).trans hw13_3),((HB.1.cell (World.block_lt_of_cell? w _ hw15_0)).trans hw15_0),((HB.1.cell (World.block_lt_of_cell? w _ hw15_1)).trans hw15_1),((HB.1.cell (World.block_lt_of_cell? w _ hw15_2)).trans hw15_2),((HB.1.cell (World.block_lt_of_cell? w _ hw15_3)).trans hw15_3)⟩ (fun hHeld=>?_);clear hK K;refine norm_ (a':=?_) ?_ ?_;rotate_left
              ·show Act.put _ (some 75) _ = _
               simp only [Act.put,s1_,s2_,s3_,i64_w,i32_w];rfl
              refine pu_ 53 (some 76) ?_ bm126_ rfl rfl HT_.1 (Or.inl ⟨by rfl,?_⟩) ?_ ?_ ?_;rotate_left;(intro w';go_simp;with_reducible rfl);rotate_left;(simp only [Act.put,s1_,s2_,s3_,i64_w,i32_w];rfl)
              refine pu_ 54 (some 77) ?_ bm127_ rfl rfl HT_.1 (Or.inl ⟨by rfl,?_⟩) ?_ ?_ ?_;rotate_left;(intro w';go_simp;with_reducible rfl);rotate_left;(simp only [Act.put,s1_,s2_,s3_,i64_w,i32_w];rfl)
              refine done_ (done_of HT_.out (by kernel_rfl)) ?_;(try go_wp2);go_meet
              case rel=>exact ⟨_,(t16),(by first | rfl | (simp;done) | (simp [*];done)),H',⟨by have:=HJ5.out;first | omega | exact Nat.le_refl _⟩,⟨by (with_reducible repeat (first | refine blk_drewN ?_ _ | refine blk_drew ?_ | refine blk_alloc ?_ _));exact BK1.1⟩,⟨by (with_reducible repeat (first | refine blk_drewN ?_ _ | refine blk_drew ?_ | refine blk_alloc ?_ _));exact BK3.1⟩,⟨hbw_⟩⟩
             ·rw [if_neg c54] at H
              have c54b0 : ((wrap64 (a2 + 1)) == (l1.length : Int)) = false:=beq_eq_false_iff_ne.mpr c54;have c54b1 : ((wrap64 (a2 + 1)) != (l1.length : Int)) = true:=bne_iff_ne.mpr c54;have H':=a0_ H;clear H;(try go_wp2);have n0_:=a0_ (blk_drew BK1.1);have n1_:=a0_ (blk_drew BK3.1);have n2_:=a0_ (below_drew1 HB.1);clear BK1;clear BK3;clear HB;have BK1:=n0_;have BK3:=n1_;have HB:=n2_;clear n0_ n1_ n2_;have p12 : 0 ≤ ((ji46) : Int):=od_;have q12 : (ji46) < (l1.length : Int):=od_;obtain ⟨ad12,e12,hx12_0,hx12_1,hx12_2,hx12_3⟩:=at_T75 HR1.1 (ji46) p12 q12;have hw12_3:=hx12_3;have hw12_2:=hx12_2;have hw12_1:=hx12_1;have hw12_0:=hx12_0;obtain rfl : ad2 = ad12:=(by injection e12);replace hx12_0:=cl_ HB.1 hx12_0;replace hx12_1:=cl_ HB.1 hx12_1;replace hx12_2:=cl_ HB.1 hx12_2;replace hx12_3:=cl_ HB.1 hx12_3;replace p12:=eq_true p12;replace q12:=eq_true q12;have p13 : 0 ≤ ((ji46) : Int):=od_;have q13 : (ji46) < (l1.length : Int):=od_;obtain ⟨ad13,e13,hx13_0,hx13_1,hx13_2,hx13_3⟩:=at_T75 HR1.1 (ji46) p13 q13;have hw13_3:=hx13_3;have hw13_2:=hx13_2;have hw13_1:=hx13_1;have hw13_0:=hx13_0;obtain rfl : ad2 = ad13:=(by injection e13);replace hx13_0:=cl_ HB.1 hx13_0;replace hx13_1:=cl_ HB.1 hx13_1;replace hx13_2:=cl_ HB.1 hx13_2;replace hx13_3:=cl_ HB.1 hx13_3;replace p13:=eq_true p13;replace q13:=eq_true q13;have p15 : 0 ≤ ((ji46) : Int):=od_;have q15 : (ji46) < (l1.length : Int):=od_;obtain ⟨ad15,e15,hx15_0,hx15_1,hx15_2,hx15_3⟩:=at_T75 HR1.1 (ji46) p15 q15;have hw15_3:=hx15_3;have hw15_2:=hx15_2;have hw15_1:=hx15_1;have hw15_0:=hx15_0;obtain rfl : ad2 = ad15:=(by injection e15);replace hx15_0:=cl_ HB.1 hx15_0;replace hx15_1:=cl_ HB.1 hx15_1;replace hx15_2:=cl_ HB.1 hx15_2;replace hx15_3:=cl_ HB.1 hx15_3;replace p15:=eq_true p15;replace q15:=eq_true q15;refine start_ (n:=55) (S:=fun w'=>w'.cell? ⟨gb3,0,none⟩ = some (.int .i64 ((rd_T75 l1 a2).f0)) ∧ w'.cell? ⟨gb3,1,none⟩ = some (.int .i64 ((rd_T75 l1 a2).f1)) ∧ w'.cell? ⟨gb3,2,none⟩ = some (.int .i64 ((rd_T75 l1 a2).f2)) ∧ w'.cell? ⟨gb3,3,none⟩ = some (.int .i64 ((rd_T75 l1 a2).f3)) ∧ w'.cell? (ad2.add (((ji46)).toNat * 4)) = some (.int .i64 ((rd_T75 l1 (ji46)).f0)) ∧ w'.cell? ⟨(ad2.add (((ji46)).toNat * 4)).block,(ad2.add (((ji46)).toNat * 4)).off + 1,none⟩ = some (.int .i64 ((rd_T75 l1 (ji46)).f1)) ∧ w'.cell? ⟨(ad2.add (((ji46)).toNat * 4)).block,(ad2.add (((ji46)).toNat * 4)).off + 2,none⟩ = some (.int .i64 ((rd_T75 l1 (ji46)).f2)) ∧ w'.cell? ⟨(ad2.add (((ji46)).toNat * 4)).block,(ad2.add (((ji46)).toNat * 4)).off + 3,none⟩ = some (.int .i64 ((rd_T75 l1 (ji46)).f3)) ∧ w'.cell? (ad2.add (((ji46)).toNat * 4)) = some (.int .i64 ((rd_T75 l1 (ji46)).f0)) ∧ w'.cell? ⟨(ad2.add (((ji46)).toNat * 4)).block,(ad2.add (((ji46)).toNat * 4)).off + 1,none⟩ = some (.int .i64 ((rd_T75 l1 (ji46)).f1)) ∧ w'.cell? ⟨(ad2.add (((ji46)).toNat * 4)).block,(ad2.add (((ji46)).toNat * 4)).off + 2,none⟩ = some (.int .i64 ((rd_T75 l1 (ji46)).f2)) ∧ w'.cell? ⟨(ad2.add (((ji46)).toNat * 4)).block,(ad2.add (((ji46)).toNat * 4)).off + 3,none⟩ = some (.int .i64 ((rd_T75 l1 (ji46)).f3)) ∧ w'.cell? (ad2.add (((ji46)).toNat * 4)) = some (.int .i64 ((rd_T75 l1 (ji46)).f0)) ∧ w'.cell? ⟨(ad2.add (((ji46)).toNat * 4)).block,(ad2.add (((ji46)).toNat * 4)).off + 1,none⟩ = some (.int .i64 ((rd_T75 l1 (ji46)).f1)) ∧ w'.cell? ⟨(ad2.add (((ji46)).toNat * 4)).block,(ad2.add (((ji46)).toNat * 4)).off + 2,none⟩ = some (.int .i64 ((rd_T75 l1 (ji46)).f2)) ∧ w'.cell? ⟨(ad2.add (((ji46)).toNat * 4)).block,(ad2.add (((ji46)).toNat * 4)).off + 3,none⟩ = some (.int .i64 ((rd_T75 l1 (ji46)).f3))) (ds:=[]) bm72_ (by kernel_rfl) rfl rfl ⟨(blk_cell BK3.1 0).trans rfl,(blk_cell BK3.1 1).trans rfl,(blk_cell BK3.1 2).trans rfl,(blk_cell BK3.1 3).trans rfl,((HB.1.cell (World.block_lt_of_cell? w _ hw12_0)).trans hw12_0),((HB.1.cell (World.block_lt_of_cell? w _ hw12_1)).trans hw12_1),((HB.1.cell (World.block_lt_of_cell? w _ hw12_2)).trans hw12_2),((HB.1.cell (World.block_lt_of_cell? w _ hw12_3)).trans hw12_3),((HB.1.cell (World.block_lt_of_cell? w _ hw13_0)).trans hw13_0),((HB.1.cell (World.block_lt_of_cell? w _ hw13_1)).trans hw13_1),((HB.1.cell (World.block_lt_of_cell? w _ hw13_2)).trans hw13_2),((HB.1.cell (World.block_lt_of_cell? w _ hw13_3)).trans hw13_3),((HB.1.cell (World.block_lt_of_cell? w _ hw15_0)).trans hw15_0),((HB.1.cell (World.block_lt_of_cell? w _ hw15_1)).trans hw15_1),((HB.1.cell (World.block_lt_of_cell? w _ hw15_2)).trans hw15_2),((HB.1.cell (World.block_lt_of_cell? w _ hw15_3)).trans hw15_3)⟩ (fun hHeld=>?_);refine with_tabW spec_validLine.tab4 spec_validLine.bits4 (fun HT_ HW_=>?_);generalize wc.drew = w57 at BK1 BK3 HB hx12_0 hx12_1 hx12_2 hx12_3 hx13_0 hx13_1 hx13_2 hx13_3 hx15_0 hx15_1 hx15_2 hx15_3 hHeld ⊢;refine pu_ 0 (some 23) ?_ bm73_ rfl rfl HT_.1 (Or.inl ⟨by rfl,?_⟩) ?_ ?_ ?_;rotate_left;(intro w';go_simp;with_reducible rfl);rotate_left;(simp only [Act.put,s1_,s2_,s3_,i64_w,i32_w];rfl)
              refine pu_ 1 (some 24) ?_ bm74_ rfl rfl HT_.1 (Or.inl ⟨by rfl,?_⟩) ?_ ?_ ?_;rotate_left;(intro w';go_simp;with_reducible rfl);rotate_left;(simp only [Act.put,s1_,s2_,s3_,i64_w,i32_w];rfl)
              refine pu_ 2 (some 25) ?_ bm75_ rfl rfl HT_.1 (Or.inl ⟨by rfl,?_⟩) ?_ ?_ ?_;rotate_left;(intro w';go_simp;with_reducible rfl);rotate_left;(simp only [Act.put,s1_,s2_,s3_,i64_w,i32_w];rfl)
              refine pu_ 3 (some 26) undef bm76_ rfl rfl HT_.1 (Or.inr ⟨by rfl,rfl⟩) ?_ ?_ ?_;rotate_left;(simp only [Act.put,s1_,s2_,s3_,i64_w,i32_w];rfl)
              refine pu_ 4 (some 27) undef bm77_ rfl rfl HT_.1 (Or.inr ⟨by rfl,rfl⟩) ?_ ?_ ?_;rotate_left;(simp only [Act.put,s1_,s2_,s3_,i64_w,i32_w];rfl)
              refine pu_ 5 (some 28) undef bm78_ rfl rfl HT_.1 (Or.inr ⟨by rfl,rfl⟩) ?_ ?_ ?_;rotate_left;(simp only [Act.put,s1_,s2_,s3_,i64_w,i32_w];rfl)
              refine pu_ 6 (some 29) ?_ bm79_ rfl rfl HT_.1 (Or.inl ⟨by rfl,?_⟩) ?_ ?_ ?_;rotate_left;(intro w';go_simp;with_reducible rfl);rotate_left;(simp only [Act.put,s1_,s2_,s3_,i64_w,i32_w];rfl)
              refine pu_ 7 (some 30) ?_ bm80_ rfl rfl HT_.1 (Or.inl ⟨by rfl,?_⟩) ?_ ?_ ?_;rotate_left;(intro w';go_simp;with_reducible rfl);rotate_left;(simp only [Act.put,s1_,s2_,s3_,i64_w,i32_w];rfl)
              refine pu_ 8 (some 31) ?_ bm81_ rfl rfl HT_.1 (Or.inl ⟨by rfl,?_⟩) ?_ ?_ ?_;rotate_left;(intro w';go_simp;with_reducible rfl);rotate_left;(simp only [Act.put,s1_,s2_,s3_,i64_w,i32_w];rfl)
              refine pu_ 9 (some 32) ?_ bm82_ rfl rfl HT_.1 (Or.inl ⟨by rfl,?_⟩) ?_ ?_ ?_;rotate_left;(intro w';go_simp;with_reducible rfl);rotate_left;(simp only [Act.put,s1_,s2_,s3_,i64_w,i32_w];rfl)
              refine pu_ 10 (some 33) ?_ bm83_ rfl rfl HT_.1 (Or.inl ⟨by rfl,?_⟩) ?_ ?_ ?_;rotate_left;(intro w';go_simp;with_reducible rfl);rotate_left;(simp only [Act.put,s1_,s2_,s3_,i64_w,i32_w];rfl)
              refine pu_ 11 (some 34) ?_ bm84_ rfl rfl HT_.1 (Or.inl ⟨by rfl,?_⟩) ?_ ?_ ?_;rotate_left;(intro w';go_simp;with_reducible rfl);rotate_left;(simp only [Act.put,s1_,s2_,s3_,i64_w,i32_w];rfl)
              refine pu_ 13 (some 36) ?_ bm128_ rfl rfl HT_.1 (Or.inl ⟨by rfl,?_⟩) ?_ ?_ ?_;rotate_left;(intro w';go_simp;with_reducible rfl);rotate_left;(simp only [Act.put,s1_,s2_,s3_,i64_w,i32_w];rfl)
              refine pu_ 14 (some 37) ?_ bm129_ rfl rfl HT_.1 (Or.inl ⟨by rfl,?_⟩) ?_ ?_ ?_;rotate_left;(intro w';go_simp;with_reducible rfl);rotate_left;(simp only [Act.put,s1_,s2_,s3_,i64_w,i32_w];rfl)
              refine pu_ 15 (some 38) ?_ bm130_ rfl rfl HT_.1 (Or.inl ⟨by rfl,?_⟩) ?_ ?_ ?_;rotate_left;(intro w';go_simp;with_reducible rfl);rotate_left;(simp only [Act.put,s1_,s2_,s3_,i64_w,i32_w];rfl)
              refine pu_ 16 (some 39) ?_ bm131_ rfl rfl HT_.1 (Or.inl ⟨by rfl,?_⟩) ?_ ?_ ?_;rotate_left;(intro w';go_simp;with_reducible rfl);rotate_left;(simp only [Act.put,s1_,s2_,s3_,i64_w,i32_w];rfl)
              refine pu_ 17 (some 40) ?_ bm132_ rfl rfl HT_.1 (Or.inl ⟨by rfl,?_⟩) ?_ ?_ ?_;rotate_left;(intro w';go_simp;with_reducible rfl);rotate_left;(simp only [Act.put,s1_,s2_,s3_,i64_w,i32_w];rfl)
              refine tu_ 12 (some 35) ?_ bm90_ rfl rfl HT_.1 HW_.1 (Or.inl ⟨by rfl,?_⟩) hHeld ?_ ?_ ?_;rotate_left;(rintro w' ⟨s0,s1,s2,s3,s4,s5,s6,s7,s8,s9,s10,s11,s12,s13,s14,s15⟩;go_simp;with_reducible rfl);rotate_left;(simp only [Act.put,s1_,s2_,s3_,i64_w,i32_w];rfl)
              refine tu_ 18 (some 41) ?_ bm91_ rfl rfl HT_.1 HW_.1 (Or.inl ⟨by rfl,?_⟩) hHeld ?_ ?_ ?_;rotate_left;(rintro w' ⟨s0,s1,s2,s3,s4,s5,s6,s7,s8,s9,s10,s11,s12,s13,s14,s15⟩;go_simp;with_reducible rfl);rotate_left;(simp only [Act.put,s1_,s2_,s3_,i64_w,i32_w];rfl)
              refine pu_ 19 (some 42) ?_ bm92_ rfl rfl HT_.1 (Or.inl ⟨by rfl,?_⟩) ?_ ?_ ?_;rotate_left;(intro w';go_simp;with_reducible rfl);rotate_left;(simp only [Act.put,s1_,s2_,s3_,i64_w,i32_w];rfl)
              refine pu_ 20 (some 43) ?_ bm93_ rfl rfl HT_.1 (Or.inl ⟨by rfl,?_⟩) ?_ ?_ ?_;rotate_left;(intro w';go_simp;with_reducible rfl);rotate_left;(simp only [Act.put,s1_,s2_,s3_,i64_w,i32_w];rfl)
              refine pu_ 21 (some 44) ?_ bm94_ rfl rfl HT_.1 (Or.inl ⟨by rfl,?_⟩) ?_ ?_ ?_;rotate_left;(intro w';go_simp;with_reducible rfl);rotate_left;(simp only [Act.put,s1_,s2_,s3_,i64_w,i32_w];rfl)
              refine pu_ 22 (some 45) ?_ bm95_ rfl rfl HT_.1 (Or.inl ⟨by rfl,?_⟩) ?_ ?_ ?_;rotate_left;(intro w';go_simp;with_reducible rfl);rotate_left;(simp only [Act.put,s1_,s2_,s3_,i64_w,i32_w];rfl)
              refine pu_ 23 (some 46) ?_ bm96_ rfl rfl HT_.1 (Or.inl ⟨by rfl,?_⟩) ?_ ?_ ?_;rotate_left;(intro w';go_simp;with_reducible rfl);rotate_left;(simp only [Act.put,s1_,s2_,s3_,i64_w,i32_w];rfl)
              refine pu_ 24 (some 47) ?_ bm97_ rfl rfl HT_.1 (Or.inl ⟨by rfl,?_⟩) ?_ ?_ ?_;rotate_left;(intro w';go_simp;with_reducible rfl);rotate_left;(simp only [Act.put,s1_,s2_,s3_,i64_w,i32_w];rfl)
              refine pu_ 25 (some 48) ?_ bm98_ rfl rfl HT_.1 (Or.inl ⟨by rfl,?_⟩) ?_ ?_ ?_;rotate_left;(intro w';go_simp;with_reducible rfl);rotate_left;(simp only [Act.put,s1_,s2_,s3_,i64_w,i32_w];rfl)
              refine pu_ 26 (some 49) ?_ bm99_ rfl rfl HT_.1 (Or.inl ⟨by rfl,?_⟩) ?_ ?_ ?_;rotate_left;(intro w';go_simp;with_reducible rfl);rotate_left;(simp only [Act.put,s1_,s2_,s3_,i64_w,i32_w];rfl)
              refine pu_ 29 (some 52) ?_ bm133_ rfl rfl HT_.1 (Or.inl ⟨by rfl,?_⟩) ?_ ?_ ?_;rotate_left;(intro w';go_simp;with_reducible rfl);rotate_left;(simp only [Act.put,s1_,s2_,s3_,i64_w,i32_w];rfl)
              refine pu_ 31 (some 54) ?_ bm134_ rfl rfl HT_.1 (Or.inl ⟨by rfl,?_⟩) ?_ ?_ ?_;rotate_left;(intro w';go_simp;with_reducible rfl);rotate_left;(simp only [Act.put,s1_,s2_,s3_,i64_w,i32_w];rfl)
              refine pu_ 32 (some 55) ?_ bm135_ rfl rfl HT_.1 (Or.inl ⟨by rfl,?_⟩) ?_ ?_ ?_;rotate_left;(intro w';go_simp;with_reducible rfl);rotate_left;(simp only [Act.put,s1_,s2_,s3_,i64_w,i32_w];rfl)
              refine pu_ 33 (some 56) ?_ bm136_ rfl rfl HT_.1 (Or.inl ⟨by rfl,?_⟩) ?_ ?_ ?_;rotate_left;(intro w';go_simp;with_reducible rfl);rotate_left;(simp only [Act.put,s1_,s2_,s3_,i64_w,i32_w];rfl)
              refine pu_ 34 (some 57) ?_ bm137_ rfl rfl HT_.1 (Or.inl ⟨by rfl,?_⟩) ?_ ?_ ?_;rotate_left;(intro w';go_simp;with_reducible rfl);rotate_left;(simp only [Act.put,s1_,s2_,s3_,i64_w,i32_w];rfl)
              refine pu_ 35 (some 58) ?_ bm138_ rfl rfl HT_.1 (Or.inl ⟨by rfl,?_⟩) ?_ ?_ ?_;rotate_left;(intro w';go_simp;with_reducible rfl);rotate_left;(simp only [Act.put,s1_,s2_,s3_,i64_w,i32_w];rfl)
              refine tu_ 27 (some 50) ?_ bm139_ rfl rfl HT_.1 HW_.1 (Or.inl ⟨by rfl,?_⟩) hHeld ?_ ?_ ?_;rotate_left;(rintro w' ⟨s0,s1,s2,s3,s4,s5,s6,s7,s8,s9,s10,s11,s12,s13,s14,s15⟩;go_simp;with_reducible rfl);rotate_left;(simp only [Act.put,s1_,s2_,s3_,i64_w,i32_w];rfl)
              refine tu_ 30 (some 53) ?_ bm140_ rfl rfl HT_.1 HW_.1 (Or.inl ⟨by rfl,?_⟩) hHeld ?_ ?_ ?_;rotate_left;(rintro w' ⟨s0,s1,s2,s3,s4,s5,s6,s7,s8,s9,s10,s11,s12,s13,s14,s15⟩;go_simp;with_reducible rfl);rotate_left;(simp only [Act.put,s1_,s2_,s3_,i64_w,i32_w];rfl)
              refine tu_ 36 (some 59) ?_ bm141_ rfl rfl HT_.1 HW_.1 (Or.inl ⟨by rfl,?_⟩) hHeld ?_ ?_ ?_;rotate_left;(rintro w' ⟨s0,s1,s2,s3,s4,s5,s6,s7,s8,s9,s10,s11,s12,s13,s14,s15⟩;go_simp;with_reducible rfl);rotate_left;(simp only [Act.put,s1_,s2_,s3_,i64_w,i32_w];rfl)
              refine pu_ 37 (some 60) ?_ bm142_ rfl rfl HT_.1 (Or.inl ⟨by rfl,?_⟩) ?_ ?_ ?_;rotate_left;(intro w';go_simp;with_reducible rfl);rotate_left;(simp only [Act.put,s1_,s2_,s3_,i64_w,i32_w];rfl)
              refine pu_ 38 (some 61) ?_ bm143_ rfl rfl HT_.1 (Or.inl ⟨by rfl,?_⟩) ?_ ?_ ?_;rotate_left;(intro w';go_simp;with_reducible rfl);rotate_left;(simp only [Act.put,s1_,s2_,s3_,i64_w,i32_w];rfl)
              refine one_ (i:=28) (N:=some 51) bm111_ rfl rfl (one_of HT_.out (by kernel_rfl)) (by decide) (fun K hK=>?_);refine goes_ Try.func158 (by kernel_rfl) rfl #[.int .i64 ((rd_T75 l1 (ji46)).f1)] (by rfl) rfl rfl (by (try simp only [List.map_toArray,List.map_cons,List.map_nil]);first | done | (simp only [hji46];rfl) | rfl | (simp only [List.length_drop,List.length_take];rfl)) ?_;(with_reducible refine (spec_opens.calls ((rd_T75 l1 (ji46)).f1) t14 _ A51.1).mono ?_);rintro e w' ⟨rfl,⟨nd,rfl⟩⟩;refine ⟨_,rfl,?_⟩;refine hK.out _ _ ⟨(blk_cell BK3.1 0).trans rfl,(blk_cell BK3.1 1).trans rfl,(blk_cell BK3.1 2).trans rfl,(blk_cell BK3.1 3).trans rfl,((HB.1.cell (World.block_lt_of_cell? w _ hw12_0)).trans hw12_0),((HB.1.cell (World.block_lt_of_cell? w _ hw12_1)).trans hw12_1),((HB.1.cell (World.block_lt_of_cell? w _ hw12_2)).trans hw12_2),((HB.1.cell (World.block_lt_of_cell? w _ hw12_3)).trans hw12_3),((HB.1.cell (World.block_lt_of_cell? w _ hw13_0)).trans hw13_0),((HB.1.cell (World.block_lt_of_cell? w _ hw13_1)).trans hw13_1),((HB.1.cell (World.block_lt_of_cell? w _ hw13_2)).trans hw13_2),((HB.1.cell (World.block_lt_of_cell? w _ hw13_3)).trans hw13_3),((HB.1.cell (World.block_lt_of_cell? w _ hw15_0)).trans hw15_0),((HB.1.cell (World.block_lt_of_cell? w _ hw15_1)).trans hw15_1),((HB.1.cell (World.block_lt_of_cell? w _ hw15_2)).trans hw15_2),((HB.1.cell (World.block_lt_of_cell? w _ hw15_3)).trans hw15_3)⟩ (fun hHeld=>?_);clear hK K;refine norm_ (a':=?_) ?_ ?_;rotate_left
              ·show Act.put _ (some 51) _ = _
               simp only [Act.put,s1_,s2_,s3_,i64_w,i32_w];rfl
              refine pu_ 39 (some 62) ?_ bm112_ rfl rfl HT_.1 (Or.inl ⟨by rfl,?_⟩) ?_ ?_ ?_;rotate_left;(intro w';go_simp;with_reducible rfl);rotate_left;(simp only [Act.put,s1_,s2_,s3_,i64_w,i32_w];rfl)
              refine pu_ 40 (some 63) ?_ bm113_ rfl rfl HT_.1 (Or.inl ⟨by rfl,?_⟩) ?_ ?_ ?_;rotate_left;(intro w';go_simp;with_reducible rfl);rotate_left;(simp only [Act.put,s1_,s2_,s3_,i64_w,i32_w];rfl)
              refine pu_ 41 (some 64) ?_ bm114_ rfl rfl HT_.1 (Or.inl ⟨by rfl,?_⟩) ?_ ?_ ?_;rotate_left;(intro w';go_simp;with_reducible rfl);rotate_left;(simp only [Act.put,s1_,s2_,s3_,i64_w,i32_w];rfl)
              refine pu_ 42 (some 65) ?_ bm115_ rfl rfl HT_.1 (Or.inl ⟨by rfl,?_⟩) ?_ ?_ ?_;rotate_left;(intro w';go_simp;with_reducible rfl);rotate_left;(simp only [Act.put,s1_,s2_,s3_,i64_w,i32_w];rfl)
              refine pu_ 43 (some 66) ?_ bm116_ rfl rfl HT_.1 (Or.inl ⟨by rfl,?_⟩) ?_ ?_ ?_;rotate_left;(intro w';go_simp;with_reducible rfl);rotate_left;(simp only [Act.put,s1_,s2_,s3_,i64_w,i32_w];rfl)
              refine pu_ 44 (some 67) ?_ bm117_ rfl rfl HT_.1 (Or.inl ⟨by rfl,?_⟩) ?_ ?_ ?_;rotate_left;(intro w';go_simp;with_reducible rfl);rotate_left;(simp only [Act.put,s1_,s2_,s3_,i64_w,i32_w];rfl)
              refine pu_ 45 (some 68) ?_ bm118_ rfl rfl HT_.1 (Or.inl ⟨by rfl,?_⟩) ?_ ?_ ?_;rotate_left;(intro w';go_simp;with_reducible rfl);rotate_left;(simp only [Act.put,s1_,s2_,s3_,i64_w,i32_w];rfl)
              refine pu_ 46 (some 69) ?_ bm119_ rfl rfl HT_.1 (Or.inl ⟨by rfl,?_⟩) ?_ ?_ ?_;rotate_left;(intro w';go_simp;with_reducible rfl);rotate_left;(simp only [Act.put,s1_,s2_,s3_,i64_w,i32_w];rfl)
              refine pu_ 47 (some 70) ?_ bm120_ rfl rfl HT_.1 (Or.inl ⟨by rfl,?_⟩) ?_ ?_ ?_;rotate_left;(intro w';go_simp;with_reducible rfl);rotate_left;(simp only [Act.put,s1_,s2_,s3_,i64_w,i32_w];rfl)
              refine pu_ 48 (some 71) ?_ bm121_ rfl rfl HT_.1 (Or.inl ⟨by rfl,?_⟩) ?_ ?_ ?_;rotate_left;(intro w';go_simp;with_reducible rfl);rotate_left;(simp only [Act.put,s1_,s2_,s3_,i64_w,i32_w];rfl)
              refine pu_ 49 (some 72) ?_ bm122_ rfl rfl HT_.1 (Or.inl ⟨by rfl,?_⟩) ?_ ?_ ?_;rotate_left;(intro w';go_simp;with_reducible rfl);rotate_left;(simp only [Act.put,s1_,s2_,s3_,i64_w,i32_w];rfl)
              refine pu_ 50 (some 73) undef bm123_ rfl rfl HT_.1 (Or.inr ⟨by rfl,rfl⟩) ?_ ?_ ?_;rotate_left;(simp only [Act.put,s1_,s2_,s3_,i64_w,i32_w];rfl)
              refine pu_ 51 (some 74) undef bm124_ rfl rfl HT_.1 (Or.inr ⟨by rfl,rfl⟩) ?_ ?_ ?_;rotate_left;(simp only [Act.put,s1_,s2_,s3_,i64_w,i32_w];rfl)
              refine pu_ 52 (some 75) undef bm125_ rfl rfl HT_.1 (Or.inr ⟨by rfl,rfl⟩) ?_ ?_ ?_;rotate_left;(simp only [Act.put,s1_,s2_,s3_,i64_w,i32_w];rfl)
              refine pu_ 53 (some 76) ?_ bm126_ rfl rfl HT_.1 (Or.inl ⟨by rfl,?_⟩) ?_ ?_ ?_;rotate_left;(intro w';go_simp;with_reducible rfl);rotate_left;(simp only [Act.put,s1_,s2_,s3_,i64_w,i32_w];rfl)
              refine pu_ 54 (some 77) ?_ bm127_ rfl rfl HT_.1 (Or.inl ⟨by rfl,?_⟩) ?_ ?_ ?_;rotate_left;(intro w';go_simp;with_reducible rfl);rotate_left;(simp only [Act.put,s1_,s2_,s3_,i64_w,i32_w];rfl)
              refine done_ (done_of HT_.out (by kernel_rfl)) ?_;(try go_wp2);go_meet
              case rel=>exact ⟨_,(false),(by first | rfl | (simp;done) | (simp [*];done)),H',⟨by have:=HJ5.out;first | omega | exact Nat.le_refl _⟩,⟨by (with_reducible repeat (first | refine blk_drewN ?_ _ | refine blk_drew ?_ | refine blk_alloc ?_ _));exact BK1.1⟩,⟨by (with_reducible repeat (first | refine blk_drewN ?_ _ | refine blk_drew ?_ | refine blk_alloc ?_ _));exact BK3.1⟩,⟨hbw_⟩⟩
          ·rw [if_neg c48] at H
           exact absurd H (by simp)
         ·rw [if_neg c47] at H
          exact absurd H (by simp)
        ·rw [if_neg c45] at H
         exact absurd (of_decide_eq_true c4b0 : 0 ≤ a2) (fun h0=>c45 (Int.lt_iff_le_and_ne.2 ⟨h0,fun e=>(beq_eq_false_iff_ne.mp c25b0) e.symm⟩))
      case rest =>
       clear HC24;(try clear c1);(try clear p2);(try clear c5);(try clear p6);(try clear c15);(try clear c58);(try clear c58b0);(try clear c58b1);obtain ⟨kq,x77_23,rfl,HA,HJ23,BK1,BK3,HB⟩:=hcut
       cases kq with
       | zero=>exact absurd HA.out (by simp [spec_validLine.j1])
       | succ kj23 =>
        have H:=HA.out;clear HA;simp only [spec_validLine.j1] at H;by_cases c62 : x77_23 = true
        ·subst c62
         have H1 : (some false) = some r:=by rw [if_pos rfl] at H;exact H
         clear H;have H:=H1;clear H1;obtain rfl:=Option.some.inj H;go_wp2;go_ret;exact ⟨by first | rfl | (simp [errW_none,errW_some] <;> rfl) | (simp [*,errW_none,errW_some] <;> rfl),hbw_⟩
        ·replace c62:=Bool.eq_false_iff.mpr c62
         subst c62
         have H1 : (if ((rd_T75 l1 a2).f1) = 7 then ((spec_validChain.f kj23 l1 a2).bind fun t18=>(if t18 = true then (if ((rd_T75 l1 a2).f1) = 5 then ((spec_inLoop.f kj23 l1 a2).bind fun t19=>(spec_validLine.j2 kj23 l1 a2 (!t19) ((rd_T75 l1 a2).f0) ((rd_T75 l1 a2).f1) ((rd_T75 l1 a2).f2) ((rd_T75 l1 a2).f3))) else (if ((rd_T75 l1 a2).f1) = 6 then ((spec_inLoop.f kj23 l1 a2).bind fun t20=>(spec_validLine.j2 kj23 l1 a2 (!t20) ((rd_T75 l1 a2).f0) ((rd_T75 l1 a2).f1) ((rd_T75 l1 a2).f2) ((rd_T75 l1 a2).f3))) else (spec_validLine.j2 kj23 l1 a2 false ((rd_T75 l1 a2).f0) ((rd_T75 l1 a2).f1) ((rd_T75 l1 a2).f2) ((rd_T75 l1 a2).f3)))) else (spec_validLine.j2 kj23 l1 a2 true ((rd_T75 l1 a2).f0) ((rd_T75 l1 a2).f1) ((rd_T75 l1 a2).f2) ((rd_T75 l1 a2).f3)))) else (if ((rd_T75 l1 a2).f1) = 5 then ((spec_inLoop.f kj23 l1 a2).bind fun t21=>(spec_validLine.j2 kj23 l1 a2 (!t21) ((rd_T75 l1 a2).f0) ((rd_T75 l1 a2).f1) ((rd_T75 l1 a2).f2) ((rd_T75 l1 a2).f3))) else (if ((rd_T75 l1 a2).f1) = 6 then ((spec_inLoop.f kj23 l1 a2).bind fun t22=>(spec_validLine.j2 kj23 l1 a2 (!t22) ((rd_T75 l1 a2).f0) ((rd_T75 l1 a2).f1) ((rd_T75 l1 a2).f2) ((rd_T75 l1 a2).f3))) else (spec_validLine.j2 kj23 l1 a2 false ((rd_T75 l1 a2).f0) ((rd_T75 l1 a2).f1) ((rd_T75 l1 a2).f2) ((rd_T75 l1 a2).f3))))) = some r:=by rw [if_neg (show ¬ (false = true) by decide)] at H;exact H
         clear H;have H:=H1;clear H1;have HC63:=a0_ H;clear H;go_upto_region 6 with (fail);go_cut [102] (fun v102 wc=>∃ (kq : Nat) (x102_62 : Bool),v102 = .bool x102_62 ∧ Aside0 (spec_validLine.j2 kq l1 a2 x102_62 ((rd_T75 l1 a2).f0) ((rd_T75 l1 a2).f1) ((rd_T75 l1 a2).f2) ((rd_T75 l1 a2).f3) = some r) ∧ Aside0 (kq ≤ kj23) ∧ Aside0 (wc.heap[gb1]? = some (.cells #[(.slice A0_0 l0_0.length c0_0)] 25 (0,0))) ∧ Aside0 (wc.heap[gb3]? = some (.cells #[.int .i64 ((rd_T75 l1 a2).f0),.int .i64 ((rd_T75 l1 a2).f1),.int .i64 ((rd_T75 l1 a2).f2),.int .i64 ((rd_T75 l1 a2).f3)] 75 (0,0))) ∧ Aside0 (Below w.heap.size w wc))
         case first =>
          have H:=HC63.1;clear HC63;by_cases c64 : ((rd_T75 l1 a2).f1) = 7
          ·rw [if_pos c64] at H
           have c64b0 : (((rd_T75 l1 a2).f1) == 7) = true:=beq_iff_eq.mpr c64;have c64b1 : (((rd_T75 l1 a2).f1) != 7) = false:=bne_eq_false_iff_eq.mpr c64;clear c64;(first | rw [c64b0] | (simp only [i64_w,i32_w];rw [c64b0]) | skip);replace H:=Option.bind_eq_some_iff.mp H;obtain ⟨t18,A650,H⟩:=H;(try dsimp only at H);have A65:=a0_ A650;clear A650;by_cases c66 : t18 = true
           ·subst c66
            have H1 : (if ((rd_T75 l1 a2).f1) = 5 then ((spec_inLoop.f kj23 l1 a2).bind fun t19=>(spec_validLine.j2 kj23 l1 a2 (!t19) ((rd_T75 l1 a2).f0) ((rd_T75 l1 a2).f1) ((rd_T75 l1 a2).f2) ((rd_T75 l1 a2).f3))) else (if ((rd_T75 l1 a2).f1) = 6 then ((spec_inLoop.f kj23 l1 a2).bind fun t20=>(spec_validLine.j2 kj23 l1 a2 (!t20) ((rd_T75 l1 a2).f0) ((rd_T75 l1 a2).f1) ((rd_T75 l1 a2).f2) ((rd_T75 l1 a2).f3))) else (spec_validLine.j2 kj23 l1 a2 false ((rd_T75 l1 a2).f0) ((rd_T75 l1 a2).f1) ((rd_T75 l1 a2).f2) ((rd_T75 l1 a2).f3)))) = some r:=by rw [if_pos rfl] at H;exact H
            clear H;have H:=H1;clear H1;by_cases c67 : ((rd_T75 l1 a2).f1) = 5
            ·rw [if_pos c67] at H
             have c67b0 : (((rd_T75 l1 a2).f1) == 5) = true:=beq_iff_eq.mpr c67;have c67b1 : (((rd_T75 l1 a2).f1) != 5) = false:=bne_eq_false_iff_eq.mpr c67;clear c67;replace H:=Option.bind_eq_some_iff.mp H;obtain ⟨t19,A680,H⟩:=H;(try dsimp only at H);have A68:=a0_ A680;clear A680;have H':=a0_ H;clear H;have hnb69:=NB3_1.1;have hnc69:=NB1_3.1;have hcz70_0 : wc.cell? ⟨gb3,0,none⟩ = some (.int .i64 ((rd_T75 l1 a2).f0)):=(blk_cell BK3.1 0).trans rfl;have hcz70_1 : wc.cell? ⟨gb3,1,none⟩ = some (.int .i64 ((rd_T75 l1 a2).f1)):=(blk_cell BK3.1 1).trans rfl;have hcz70_2 : wc.cell? ⟨gb3,2,none⟩ = some (.int .i64 ((rd_T75 l1 a2).f2)):=(blk_cell BK3.1 2).trans rfl;have hcz70_3 : wc.cell? ⟨gb3,3,none⟩ = some (.int .i64 ((rd_T75 l1 a2).f3)):=(blk_cell BK3.1 3).trans rfl;have hfz70_0:=blk_frozen BK3.1 0;have hfz70_1:=blk_frozen BK3.1 1;have hfz70_2:=blk_frozen BK3.1 2;have hfz70_3:=blk_frozen BK3.1 3;go_wp2_with (first | (go_at_call 159;(with_reducible refine (spec_validChain.calls kj23 _ _ l1 a2 true _ ?side1 ?side2 A65.1).mono ?_);(case side1=>exact cc_ (C_below HR1.1 HB.1));(case side2=>exact HC1.1);rintro e w71 ⟨rfl,hb⟩;replace BK1:=kb_ BK1 hb;replace BK3:=kb_ BK3 hb;replace HB:=a0_ (below_step hbw_ hb);(try clear hb);have hcz72_0 : w71.cell? ⟨gb3,0,none⟩ = some (.int .i64 ((rd_T75 l1 a2).f0)):=(blk_cell BK3.1 0).trans rfl;have hcz72_1 : w71.cell? ⟨gb3,1,none⟩ = some (.int .i64 ((rd_T75 l1 a2).f1)):=(blk_cell BK3.1 1).trans rfl;have hcz72_2 : w71.cell? ⟨gb3,2,none⟩ = some (.int .i64 ((rd_T75 l1 a2).f2)):=(blk_cell BK3.1 2).trans rfl;have hcz72_3 : w71.cell? ⟨gb3,3,none⟩ = some (.int .i64 ((rd_T75 l1 a2).f3)):=(blk_cell BK3.1 3).trans rfl;have hfz72_0:=blk_frozen BK3.1 0;have hfz72_1:=blk_frozen BK3.1 1;have hfz72_2:=blk_frozen BK3.1 2;have hfz72_3:=blk_frozen BK3.1 3) | (go_at_call 160;(with_reducible refine (spec_inLoop.calls kj23 _ _ l1 a2 t19 _ ?side1 ?side2 A68.1).mono ?_);(case side1=>exact cc_ (C_below HR1.1 HB.1));(case side2=>exact HC1.1);rintro e w' ⟨rfl,⟨nd,rfl⟩⟩));go_meet
             case rel=>exact ⟨_,(!t19),(by first | rfl | (simp;done) | (simp [*];done)),H',⟨by have:=HJ5.out;have:=HJ23.out;first | omega | exact Nat.le_refl _⟩,⟨by (with_reducible repeat (first | refine blk_drewN ?_ _ | refine blk_drew ?_ | refine blk_alloc ?_ _));exact BK1.1⟩,⟨by (with_reducible repeat (first | refine blk_drewN ?_ _ | refine blk_drew ?_ | refine blk_alloc ?_ _));exact BK3.1⟩,⟨hbw_⟩⟩
            ·rw [if_neg c67] at H
             have c67b0 : (((rd_T75 l1 a2).f1) == 5) = false:=beq_eq_false_iff_ne.mpr c67;have c67b1 : (((rd_T75 l1 a2).f1) != 5) = true:=bne_iff_ne.mpr c67;by_cases c73 : ((rd_T75 l1 a2).f1) = 6
             ·rw [if_pos c73] at H
              have c73b0 : (((rd_T75 l1 a2).f1) == 6) = true:=beq_iff_eq.mpr c73;have c73b1 : (((rd_T75 l1 a2).f1) != 6) = false:=bne_eq_false_iff_eq.mpr c73;clear c73;replace H:=Option.bind_eq_some_iff.mp H;obtain ⟨t20,A740,H⟩:=H;(try dsimp only at H);have A74:=a0_ A740;clear A740;have H':=a0_ H;clear H;have hnb75:=NB3_1.1;have hnc75:=NB1_3.1;have hcz76_0 : wc.cell? ⟨gb3,0,none⟩ = some (.int .i64 ((rd_T75 l1 a2).f0)):=(blk_cell BK3.1 0).trans rfl;have hcz76_1 : wc.cell? ⟨gb3,1,none⟩ = some (.int .i64 ((rd_T75 l1 a2).f1)):=(blk_cell BK3.1 1).trans rfl;have hcz76_2 : wc.cell? ⟨gb3,2,none⟩ = some (.int .i64 ((rd_T75 l1 a2).f2)):=(blk_cell BK3.1 2).trans rfl;have hcz76_3 : wc.cell? ⟨gb3,3,none⟩ = some (.int .i64 ((rd_T75 l1 a2).f3)):=(blk_cell BK3.1 3).trans rfl;have hfz76_0:=blk_frozen BK3.1 0;have hfz76_1:=blk_frozen BK3.1 1;have hfz76_2:=blk_frozen BK3.1 2;have hfz76_3:=blk_frozen BK3.1 3;go_wp2_with (first | (go_at_call 159;(with_reducible refine (spec_validChain.calls kj23 _ _ l1 a2 true _ ?side1 ?side2 A65.1).mono ?_);(case side1=>exact cc_ (C_below HR1.1 HB.1));(case side2=>exact HC1.1);rintro e w77 ⟨rfl,hb⟩;replace BK1:=kb_ BK1 hb;replace BK3:=kb_ BK3 hb;replace HB:=a0_ (below_step hbw_ hb);(try clear hb);have hcz78_0 : w77.cell? ⟨gb3,0,none⟩ = some (.int .i64 ((rd_T75 l1 a2).f0)):=(blk_cell BK3.1 0).trans rfl;have hcz78_1 : w77.cell? ⟨gb3,1,none⟩ = some (.int .i64 ((rd_T75 l1 a2).f1)):=(blk_cell BK3.1 1).trans rfl;have hcz78_2 : w77.cell? ⟨gb3,2,none⟩ = some (.int .i64 ((rd_T75 l1 a2).f2)):=(blk_cell BK3.1 2).trans rfl;have hcz78_3 : w77.cell? ⟨gb3,3,none⟩ = some (.int .i64 ((rd_T75 l1 a2).f3)):=(blk_cell BK3.1 3).trans rfl;have hfz78_0:=blk_frozen BK3.1 0;have hfz78_1:=blk_frozen BK3.1 1;have hfz78_2:=blk_frozen BK3.1 2;have hfz78_3:=blk_frozen BK3.1 3) | (go_at_call 160;(with_reducible refine (spec_inLoop.calls kj23 _ _ l1 a2 t20 _ ?side1 ?side2 A74.1).mono ?_);(case side1=>exact cc_ (C_below HR1.1 HB.1));(case side2=>exact HC1.1);rintro e w' ⟨rfl,⟨nd,rfl⟩⟩));go_meet
              case rel=>exact ⟨_,(!t20),(by first | rfl | (simp;done) | (simp [*];done)),H',⟨by have:=HJ5.out;have:=HJ23.out;first | omega | exact Nat.le_refl _⟩,⟨by (with_reducible repeat (first | refine blk_drewN ?_ _ | refine blk_drew ?_ | refine blk_alloc ?_ _));exact BK1.1⟩,⟨by (with_reducible repeat (first | refine blk_drewN ?_ _ | refine blk_drew ?_ | refine blk_alloc ?_ _));exact BK3.1⟩,⟨hbw_⟩⟩
             ·rw [if_neg c73] at H
              have c73b0 : (((rd_T75 l1 a2).f1) == 6) = false:=beq_eq_false_iff_ne.mpr c73;have c73b1 : (((rd_T75 l1 a2).f1) != 6) = true:=bne_iff_ne.mpr c73;have H':=a0_ H;clear H;have hnb79:=NB3_1.1;have hnc79:=NB1_3.1;have hcz80_0 : wc.cell? ⟨gb3,0,none⟩ = some (.int .i64 ((rd_T75 l1 a2).f0)):=(blk_cell BK3.1 0).trans rfl;have hcz80_1 : wc.cell? ⟨gb3,1,none⟩ = some (.int .i64 ((rd_T75 l1 a2).f1)):=(blk_cell BK3.1 1).trans rfl;have hcz80_2 : wc.cell? ⟨gb3,2,none⟩ = some (.int .i64 ((rd_T75 l1 a2).f2)):=(blk_cell BK3.1 2).trans rfl;have hcz80_3 : wc.cell? ⟨gb3,3,none⟩ = some (.int .i64 ((rd_T75 l1 a2).f3)):=(blk_cell BK3.1 3).trans rfl;have hfz80_0:=blk_frozen BK3.1 0;have hfz80_1:=blk_frozen BK3.1 1;have hfz80_2:=blk_frozen BK3.1 2;have hfz80_3:=blk_frozen BK3.1 3;go_wp2_with (first | (go_at_call 159;(with_reducible refine (spec_validChain.calls kj23 _ _ l1 a2 true _ ?side1 ?side2 A65.1).mono ?_);(case side1=>exact cc_ (C_below HR1.1 HB.1));(case side2=>exact HC1.1);rintro e w81 ⟨rfl,hb⟩;replace BK1:=kb_ BK1 hb;replace BK3:=kb_ BK3 hb;replace HB:=a0_ (below_step hbw_ hb);(try clear hb);have hcz82_0 : w81.cell? ⟨gb3,0,none⟩ = some (.int .i64 ((rd_T75 l1 a2).f0)):=(blk_cell BK3.1 0).trans rfl;have hcz82_1 : w81.cell? ⟨gb3,1,none⟩ = some (.int .i64 ((rd_T75 l1 a2).f1)):=(blk_cell BK3.1 1).trans rfl;have hcz82_2 : w81.cell? ⟨gb3,2,none⟩ = some (.int .i64 ((rd_T75 l1 a2).f2)):=(blk_cell BK3.1 2).trans rfl;have hcz82_3 : w81.cell? ⟨gb3,3,none⟩ = some (.int .i64 ((rd_T75 l1 a2).f3)):=(blk_cell BK3.1 3).trans rfl;have hfz82_0:=blk_frozen BK3.1 0;have hfz82_1:=blk_frozen BK3.1 1;have hfz82_2:=blk_frozen BK3.1 2;have hfz82_3:=blk_frozen BK3.1 3));go_meet
              case rel=>exact ⟨_,(false),(by first | rfl | (simp;done) | (simp [*];done)),H',⟨by have:=HJ5.out;have:=HJ23.out;first | omega | exact Nat.le_refl _⟩,⟨by (with_reducible repeat (first | refine blk_drewN ?_ _ | refine blk_drew ?_ | refine blk_alloc ?_ _));exact BK1.1⟩,⟨by (with_reducible repeat (first | refine blk_drewN ?_ _ | refine blk_drew ?_ | refine blk_alloc ?_ _));exact BK3.1⟩,⟨hbw_⟩⟩
           ·replace c66:=Bool.eq_false_iff.mpr c66
            subst c66
            have H1 : (spec_validLine.j2 kj23 l1 a2 true ((rd_T75 l1 a2).f0) ((rd_T75 l1 a2).f1) ((rd_T75 l1 a2).f2) ((rd_T75 l1 a2).f3)) = some r:=by rw [if_neg (show ¬ (false = true) by decide)] at H;exact H
            clear H;have H:=H1;clear H1;have H':=a0_ H;clear H;have hnb83:=NB3_1.1;have hnc83:=NB1_3.1;have hcz84_0 : wc.cell? ⟨gb3,0,none⟩ = some (.int .i64 ((rd_T75 l1 a2).f0)):=(blk_cell BK3.1 0).trans rfl;have hcz84_1 : wc.cell? ⟨gb3,1,none⟩ = some (.int .i64 ((rd_T75 l1 a2).f1)):=(blk_cell BK3.1 1).trans rfl;have hcz84_2 : wc.cell? ⟨gb3,2,none⟩ = some (.int .i64 ((rd_T75 l1 a2).f2)):=(blk_cell BK3.1 2).trans rfl;have hcz84_3 : wc.cell? ⟨gb3,3,none⟩ = some (.int .i64 ((rd_T75 l1 a2).f3)):=(blk_cell BK3.1 3).trans rfl;have hfz84_0:=blk_frozen BK3.1 0;have hfz84_1:=blk_frozen BK3.1 1;have hfz84_2:=blk_frozen BK3.1 2;have hfz84_3:=blk_frozen BK3.1 3;go_wp2_with (first | (go_at_call 159;(with_reducible refine (spec_validChain.calls kj23 _ _ l1 a2 false _ ?side1 ?side2 A65.1).mono ?_);(case side1=>exact cc_ (C_below HR1.1 HB.1));(case side2=>exact HC1.1);rintro e w85 ⟨rfl,hb⟩;replace BK1:=kb_ BK1 hb;replace BK3:=kb_ BK3 hb;replace HB:=a0_ (below_step hbw_ hb);(try clear hb);(try clear hb2);(try clear hk);(try clear hi)));go_meet
            case rel=>exact ⟨_,(true),(by first | rfl | (simp;done) | (simp [*];done)),H',⟨by have:=HJ5.out;have:=HJ23.out;first | omega | exact Nat.le_refl _⟩,⟨by (with_reducible repeat (first | refine blk_drewN ?_ _ | refine blk_drew ?_ | refine blk_alloc ?_ _));exact BK1.1⟩,⟨by (with_reducible repeat (first | refine blk_drewN ?_ _ | refine blk_drew ?_ | refine blk_alloc ?_ _));exact BK3.1⟩,⟨hbw_⟩⟩
          ·rw [if_neg c64] at H
           have c64b0 : (((rd_T75 l1 a2).f1) == 7) = false:=beq_eq_false_iff_ne.mpr c64;have c64b1 : (((rd_T75 l1 a2).f1) != 7) = true:=bne_iff_ne.mpr c64;(first | rw [c64b0] | (simp only [i64_w,i32_w];rw [c64b0]) | skip);by_cases c86 : ((rd_T75 l1 a2).f1) = 5
           ·rw [if_pos c86] at H
            have c86b0 : (((rd_T75 l1 a2).f1) == 5) = true:=beq_iff_eq.mpr c86;have c86b1 : (((rd_T75 l1 a2).f1) != 5) = false:=bne_eq_false_iff_eq.mpr c86;clear c86;replace H:=Option.bind_eq_some_iff.mp H;obtain ⟨t21,A870,H⟩:=H;(try dsimp only at H);have A87:=a0_ A870;clear A870;have H':=a0_ H;clear H;have hnb88:=NB3_1.1;have hnc88:=NB1_3.1;have hcz89_0 : wc.cell? ⟨gb3,0,none⟩ = some (.int .i64 ((rd_T75 l1 a2).f0)):=(blk_cell BK3.1 0).trans rfl;have hcz89_1 : wc.cell? ⟨gb3,1,none⟩ = some (.int .i64 ((rd_T75 l1 a2).f1)):=(blk_cell BK3.1 1).trans rfl;have hcz89_2 : wc.cell? ⟨gb3,2,none⟩ = some (.int .i64 ((rd_T75 l1 a2).f2)):=(blk_cell BK3.1 2).trans rfl;have hcz89_3 : wc.cell? ⟨gb3,3,none⟩ = some (.int .i64 ((rd_T75 l1 a2).f3)):=(blk_cell BK3.1 3).trans rfl;have hfz89_0:=blk_frozen BK3.1 0;have hfz89_1:=blk_frozen BK3.1 1;have hfz89_2:=blk_frozen BK3.1 2;have hfz89_3:=blk_frozen BK3.1 3;go_wp2_with (first | (go_at_call 160;(with_reducible refine (spec_inLoop.calls kj23 _ _ l1 a2 t21 _ ?side1 ?side2 A87.1).mono ?_);(case side1=>exact cc_ (C_below HR1.1 HB.1));(case side2=>exact HC1.1);rintro e w' ⟨rfl,⟨nd,rfl⟩⟩));go_meet
            case rel=>exact ⟨_,(!t21),(by first | rfl | (simp;done) | (simp [*];done)),H',⟨by have:=HJ5.out;have:=HJ23.out;first | omega | exact Nat.le_refl _⟩,⟨by (with_reducible repeat (first | refine blk_drewN ?_ _ | refine blk_drew ?_ | refine blk_alloc ?_ _));exact BK1.1⟩,⟨by (with_reducible repeat (first | refine blk_drewN ?_ _ | refine blk_drew ?_ | refine blk_alloc ?_ _));exact BK3.1⟩,⟨hbw_⟩⟩
           ·rw [if_neg c86] at H
            have c86b0 : (((rd_T75 l1 a2).f1) == 5) = false:=beq_eq_false_iff_ne.mpr c86;have c86b1 : (((rd_T75 l1 a2).f1) != 5) = true:=bne_iff_ne.mpr c86;by_cases c90 : ((rd_T75 l1 a2).f1) = 6
            ·rw [if_pos c90] at H
             have c90b0 : (((rd_T75 l1 a2).f1) == 6) = true:=beq_iff_eq.mpr c90;have c90b1 : (((rd_T75 l1 a2).f1) != 6) = false:=bne_eq_false_iff_eq.mpr c90;clear c90;replace H:=Option.bind_eq_some_iff.mp H;obtain ⟨t22,A910,H⟩:=H;(try dsimp only at H);have A91:=a0_ A910;clear A910;have H':=a0_ H;clear H;have hnb92:=NB3_1.1;have hnc92:=NB1_3.1;have hcz93_0 : wc.cell? ⟨gb3,0,none⟩ = some (.int .i64 ((rd_T75 l1 a2).f0)):=(blk_cell BK3.1 0).trans rfl;have hcz93_1 : wc.cell? ⟨gb3,1,none⟩ = some (.int .i64 ((rd_T75 l1 a2).f1)):=(blk_cell BK3.1 1).trans rfl;have hcz93_2 : wc.cell? ⟨gb3,2,none⟩ = some (.int .i64 ((rd_T75 l1 a2).f2)):=(blk_cell BK3.1 2).trans rfl;have hcz93_3 : wc.cell? ⟨gb3,3,none⟩ = some (.int .i64 ((rd_T75 l1 a2).f3)):=(blk_cell BK3.1 3).trans rfl;have hfz93_0:=blk_frozen BK3.1 0;have hfz93_1:=blk_frozen BK3.1 1;have hfz93_2:=blk_frozen BK3.1 2;have hfz93_3:=blk_frozen BK3.1 3;go_wp2_with (first | (go_at_call 160;(with_reducible refine (spec_inLoop.calls kj23 _ _ l1 a2 t22 _ ?side1 ?side2 A91.1).mono ?_);(case side1=>exact cc_ (C_below HR1.1 HB.1));(case side2=>exact HC1.1);rintro e w' ⟨rfl,⟨nd,rfl⟩⟩));go_meet
             case rel=>exact ⟨_,(!t22),(by first | rfl | (simp;done) | (simp [*];done)),H',⟨by have:=HJ5.out;have:=HJ23.out;first | omega | exact Nat.le_refl _⟩,⟨by (with_reducible repeat (first | refine blk_drewN ?_ _ | refine blk_drew ?_ | refine blk_alloc ?_ _));exact BK1.1⟩,⟨by (with_reducible repeat (first | refine blk_drewN ?_ _ | refine blk_drew ?_ | refine blk_alloc ?_ _));exact BK3.1⟩,⟨hbw_⟩⟩
            ·rw [if_neg c90] at H
             have c90b0 : (((rd_T75 l1 a2).f1) == 6) = false:=beq_eq_false_iff_ne.mpr c90;have c90b1 : (((rd_T75 l1 a2).f1) != 6) = true:=bne_iff_ne.mpr c90;have H':=a0_ H;clear H;have hnb94:=NB3_1.1;have hnc94:=NB1_3.1;have hcz95_0 : wc.cell? ⟨gb3,0,none⟩ = some (.int .i64 ((rd_T75 l1 a2).f0)):=(blk_cell BK3.1 0).trans rfl;have hcz95_1 : wc.cell? ⟨gb3,1,none⟩ = some (.int .i64 ((rd_T75 l1 a2).f1)):=(blk_cell BK3.1 1).trans rfl;have hcz95_2 : wc.cell? ⟨gb3,2,none⟩ = some (.int .i64 ((rd_T75 l1 a2).f2)):=(blk_cell BK3.1 2).trans rfl;have hcz95_3 : wc.cell? ⟨gb3,3,none⟩ = some (.int .i64 ((rd_T75 l1 a2).f3)):=(blk_cell BK3.1 3).trans rfl;have hfz95_0:=blk_frozen BK3.1 0;have hfz95_1:=blk_frozen BK3.1 1;have hfz95_2:=blk_frozen BK3.1 2;have hfz95_3:=blk_frozen BK3.1 3;go_wp2;go_meet
             case rel=>exact ⟨_,(false),(by first | rfl | (simp;done) | (simp [*];done)),H',⟨by have:=HJ5.out;have:=HJ23.out;first | omega | exact Nat.le_refl _⟩,⟨by (with_reducible repeat (first | refine blk_drewN ?_ _ | refine blk_drew ?_ | refine blk_alloc ?_ _));exact BK1.1⟩,⟨by (with_reducible repeat (first | refine blk_drewN ?_ _ | refine blk_drew ?_ | refine blk_alloc ?_ _));exact BK3.1⟩,⟨hbw_⟩⟩
         case rest =>
          clear HC63;(try clear c1);(try clear p2);(try clear c5);(try clear c6);(try clear p6);(try clear c7);(try clear c8);(try clear c9);(try clear c15);(try clear c58);(try clear c58b0);(try clear c58b1);(try clear c62);(try clear c64);(try clear c64b0);(try clear c64b1);(try clear p64);(try clear c66);(try clear c67);(try clear c67b0);(try clear c67b1);(try clear c69);(try clear c73);(try clear c73b0);(try clear c73b1);(try clear c75);(try clear c79);(try clear c83);(try clear c86);(try clear c86b0);(try clear c86b1);(try clear c88);(try clear c90);(try clear c90b0);(try clear c90b1);(try clear c92);(try clear c94);(try clear hcz70_0);(try clear hcz70_1);(try clear hcz70_2);(try clear hcz70_3);(try clear hcz72_0);(try clear hcz72_1);(try clear hcz72_2);(try clear hcz72_3);(try clear hcz76_0);(try clear hcz76_1);(try clear hcz76_2);(try clear hcz76_3);(try clear hcz78_0);(try clear hcz78_1);(try clear hcz78_2);(try clear hcz78_3);(try clear hcz80_0);(try clear hcz80_1);(try clear hcz80_2);(try clear hcz80_3);(try clear hcz82_0);(try clear hcz82_1);(try clear hcz82_2);(try clear hcz82_3);(try clear hcz84_0);(try clear hcz84_1);(try clear hcz84_2);(try clear hcz84_3);(try clear hcz89_0);(try clear hcz89_1);(try clear hcz89_2);(try clear hcz89_3);(try clear hcz93_0);(try clear hcz93_1);(try clear hcz93_2);(try clear hcz93_3);(try clear hcz95_0);(try clear hcz95_1);(try clear hcz95_2);(try clear hcz95_3);(try clear hfz70_0);(try clear hfz70_1);(try clear hfz70_2);(try clear hfz70_3);(try clear hfz72_0);(try clear hfz72_1);(try clear hfz72_2);(try clear hfz72_3);(try clear hfz76_0);(try clear hfz76_1);(try clear hfz76_2);(try clear hfz76_3);(try clear hfz78_0);(try clear hfz78_1);(try clear hfz78_2);(try clear hfz78_3);(try clear hfz80_0);(try clear hfz80_1);(try clear hfz80_2);(try clear hfz80_3);(try clear hfz82_0);(try clear hfz82_1);(try clear hfz82_2);(try clear hfz82_3);(try clear hfz84_0);(try clear hfz84_1);(try clear hfz84_2);(try clear hfz84_3);(try clear hfz89_0);(try clear hfz89_1);(try clear hfz89_2);(try clear hfz89_3);(try clear hfz93_0);(try clear hfz93_1);(try clear hfz93_2);(try clear hfz93_3);(try clear hfz95_0);(try clear hfz95_1);(try clear hfz95_2);(try clear hfz95_3);(try clear p2);(try clear p6);obtain ⟨kq,x102_62,rfl,HA,HJ62,BK1,BK3,HB⟩:=hcut
          cases kq with
          | zero=>exact absurd HA.out (by simp [spec_validLine.j2])
          | succ kj62 =>
           have H:=HA.out;clear HA;simp only [spec_validLine.j2] at H;by_cases c96 : x102_62 = true
           ·subst c96
            have H1 : (some false) = some r:=by rw [if_pos rfl] at H;exact H
            clear H;have H:=H1;clear H1;obtain rfl:=Option.some.inj H;go_wp2;go_ret;exact ⟨by first | rfl | (simp [errW_none,errW_some] <;> rfl) | (simp [*,errW_none,errW_some] <;> rfl),hbw_⟩
           ·replace c96:=Bool.eq_false_iff.mpr c96
            subst c96
            have H1 : ((spec_follows.f ((rd_T75 l1 a2).f1)).bind fun t23=>(if t23 = true then ((spec_headOf.f kj62 l1 a2).bind fun t24=>(if t24 ≥ 0 then (if 0 ≤ t24 then (if t24 < (l1.length : Int) then (if ((rd_T75 l1 t24).f1) = 7 then (some true) else ((spec_follows.f ((rd_T75 l1 t24).f1)).bind fun t27=>(some t27))) else (none)) else (none)) else (some false))) else (some true))) = some r:=by rw [if_neg (show ¬ (false = true) by decide)] at H;exact H
            clear H;have H:=H1;clear H1;replace H:=Option.bind_eq_some_iff.mp H;obtain ⟨t23,A970,H⟩:=H;(try dsimp only at H);have A97:=a0_ A970;clear A970;by_cases c98 : t23 = true
            ·subst c98
             have H1 : ((spec_headOf.f kj62 l1 a2).bind fun t24=>(if t24 ≥ 0 then (if 0 ≤ t24 then (if t24 < (l1.length : Int) then (if ((rd_T75 l1 t24).f1) = 7 then (some true) else ((spec_follows.f ((rd_T75 l1 t24).f1)).bind fun t27=>(some t27))) else (none)) else (none)) else (some false))) = some r:=by rw [if_pos rfl] at H;exact H
             clear H;have H:=H1;clear H1;replace H:=Option.bind_eq_some_iff.mp H;obtain ⟨t24,A990,H⟩:=H;(try dsimp only at H);have A99:=a0_ A990;clear A990;by_cases c100 : t24 ≥ 0
             ·rw [if_pos c100] at H
              have c100b0 : decide (0 ≤ t24) = true:=decide_eq_true c100;clear c100;by_cases c101 : 0 ≤ t24
              ·rw [if_pos c101] at H
               have c101b0 : decide (0 ≤ t24) = true:=decide_eq_true c101;clear c101;by_cases c102 : t24 < (l1.length : Int)
               ·rw [if_pos c102] at H
                have c102b0 : decide (t24 < (l1.length : Int)) = true:=decide_eq_true c102;clear c102;by_cases c103 : ((rd_T75 l1 t24).f1) = 7
                ·rw [if_pos c103] at H
                 have c103b0 : (((rd_T75 l1 t24).f1) == 7) = true:=beq_iff_eq.mpr c103;have c103b1 : (((rd_T75 l1 t24).f1) != 7) = false:=bne_eq_false_iff_eq.mpr c103;clear c103;obtain rfl:=Option.some.inj H;have hnb104:=NB3_1.1;have hnc104:=NB1_3.1;have hcz105_0 : wc.cell? ⟨gb3,0,none⟩ = some (.int .i64 ((rd_T75 l1 a2).f0)):=(blk_cell BK3.1 0).trans rfl;have hcz105_1 : wc.cell? ⟨gb3,1,none⟩ = some (.int .i64 ((rd_T75 l1 a2).f1)):=(blk_cell BK3.1 1).trans rfl;have hcz105_2 : wc.cell? ⟨gb3,2,none⟩ = some (.int .i64 ((rd_T75 l1 a2).f2)):=(blk_cell BK3.1 2).trans rfl;have hcz105_3 : wc.cell? ⟨gb3,3,none⟩ = some (.int .i64 ((rd_T75 l1 a2).f3)):=(blk_cell BK3.1 3).trans rfl;have hfz105_0:=blk_frozen BK3.1 0;have hfz105_1:=blk_frozen BK3.1 1;have hfz105_2:=blk_frozen BK3.1 2;have hfz105_3:=blk_frozen BK3.1 3;go_wp2_with (first | ((with_reducible refine gate_callee (f:=161) rfl ?_);refine goesL_ (some 105) rfl rfl Try.func161 (by kernel_rfl) rfl #[.int .i64 ((rd_T75 l1 a2).f1)] rfl lm_ ?_;(with_reducible refine (spec_follows.calls ((rd_T75 l1 a2).f1) true _ A97.1).mono ?_);rintro e w' ⟨rfl,⟨nd,rfl⟩⟩;refine ⟨_,rfl,?_⟩) | ((with_reducible refine gate_callee (f:=162) rfl ?_);refine goesL_ (some 109) rfl rfl Try.func162 (by kernel_rfl) rfl #[.slice (some ad2) l1.length c1,.int .i64 a2] rfl lm_ ?_;(with_reducible refine (spec_headOf.calls kj62 _ _ l1 a2 t24 _ ?side1 ?side2 A99.1).mono ?_);(case side1=>repeat (first | exact (C_below HR1.1 hbw_) | (with_reducible refine C_alloc ?_ _) | (with_reducible refine C_drewN ?_ _) | (with_reducible refine C_drew ?_)));(case side2=>exact HC1.1);rintro e w' ⟨rfl,⟨nd,rfl⟩⟩;refine ⟨_,rfl,?_⟩;have p25 : 0 ≤ (t24 : Int):=od_;have q25 : t24 < (l1.length : Int):=od_;obtain ⟨ad25,e25,hx25_0,hx25_1,hx25_2,hx25_3⟩:=at_T75 HR1.1 t24 p25 q25;obtain rfl : ad2 = ad25:=(by injection e25);replace hx25_0:=cl_ HB.1 hx25_0;replace hx25_1:=cl_ HB.1 hx25_1;replace hx25_2:=cl_ HB.1 hx25_2;replace hx25_3:=cl_ HB.1 hx25_3;replace p25:=eq_true p25;replace q25:=eq_true q25));go_ret;exact ⟨by first | rfl | (simp [errW_none,errW_some] <;> rfl) | (simp [*,errW_none,errW_some] <;> rfl),hbw_⟩
                ·rw [if_neg c103] at H
                 have c103b0 : (((rd_T75 l1 t24).f1) == 7) = false:=beq_eq_false_iff_ne.mpr c103;have c103b1 : (((rd_T75 l1 t24).f1) != 7) = true:=bne_iff_ne.mpr c103;replace H:=Option.bind_eq_some_iff.mp H;obtain ⟨t27,A1060,H⟩:=H;replace H : (some t27) = some r:=H;have A106:=a0_ A1060;clear A1060;obtain rfl:=Option.some.inj H;have hnb107:=NB3_1.1;have hnc107:=NB1_3.1;have hcz108_0 : wc.cell? ⟨gb3,0,none⟩ = some (.int .i64 ((rd_T75 l1 a2).f0)):=(blk_cell BK3.1 0).trans rfl;have hcz108_1 : wc.cell? ⟨gb3,1,none⟩ = some (.int .i64 ((rd_T75 l1 a2).f1)):=(blk_cell BK3.1 1).trans rfl;have hcz108_2 : wc.cell? ⟨gb3,2,none⟩ = some (.int .i64 ((rd_T75 l1 a2).f2)):=(blk_cell BK3.1 2).trans rfl;have hcz108_3 : wc.cell? ⟨gb3,3,none⟩ = some (.int .i64 ((rd_T75 l1 a2).f3)):=(blk_cell BK3.1 3).trans rfl;have hfz108_0:=blk_frozen BK3.1 0;have hfz108_1:=blk_frozen BK3.1 1;have hfz108_2:=blk_frozen BK3.1 2;have hfz108_3:=blk_frozen BK3.1 3;go_wp2_with (first | ((with_reducible refine gate_callee (f:=161) rfl ?_);refine goesL_ (some 105) rfl rfl Try.func161 (by kernel_rfl) rfl #[.int .i64 ((rd_T75 l1 a2).f1)] rfl lm_ ?_;(with_reducible refine (spec_follows.calls ((rd_T75 l1 a2).f1) true _ A97.1).mono ?_);rintro e w' ⟨rfl,⟨nd,rfl⟩⟩;refine ⟨_,rfl,?_⟩) | ((with_reducible refine gate_callee (f:=162) rfl ?_);refine goesL_ (some 109) rfl rfl Try.func162 (by kernel_rfl) rfl #[.slice (some ad2) l1.length c1,.int .i64 a2] rfl lm_ ?_;(with_reducible refine (spec_headOf.calls kj62 _ _ l1 a2 t24 _ ?side1 ?side2 A99.1).mono ?_);(case side1=>repeat (first | exact (C_below HR1.1 hbw_) | (with_reducible refine C_alloc ?_ _) | (with_reducible refine C_drewN ?_ _) | (with_reducible refine C_drew ?_)));(case side2=>exact HC1.1);rintro e w' ⟨rfl,⟨nd,rfl⟩⟩;refine ⟨_,rfl,?_⟩;have p25 : 0 ≤ (t24 : Int):=od_;have q25 : t24 < (l1.length : Int):=od_;obtain ⟨ad25,e25,hx25_0,hx25_1,hx25_2,hx25_3⟩:=at_T75 HR1.1 t24 p25 q25;obtain rfl : ad2 = ad25:=(by injection e25);replace hx25_0:=cl_ HB.1 hx25_0;replace hx25_1:=cl_ HB.1 hx25_1;replace hx25_2:=cl_ HB.1 hx25_2;replace hx25_3:=cl_ HB.1 hx25_3;replace p25:=eq_true p25;replace q25:=eq_true q25;have p26 : 0 ≤ (t24 : Int):=od_;have q26 : t24 < (l1.length : Int):=od_;obtain ⟨ad26,e26,hx26_0,hx26_1,hx26_2,hx26_3⟩:=at_T75 HR1.1 t24 p26 q26;obtain rfl : ad2 = ad26:=(by injection e26);replace hx26_0:=cl_ HB.1 hx26_0;replace hx26_1:=cl_ HB.1 hx26_1;replace hx26_2:=cl_ HB.1 hx26_2;replace hx26_3:=cl_ HB.1 hx26_3;replace p26:=eq_true p26;replace q26:=eq_true q26) | (go_at_call 161;(with_reducible refine (spec_follows.calls ((rd_T75 l1 t24).f1) t27 _ A106.1).mono ?_);rintro e w' ⟨rfl,⟨nd,rfl⟩⟩));go_ret;exact ⟨by first | rfl | (simp [errW_none,errW_some] <;> rfl) | (simp [*,errW_none,errW_some] <;> rfl),hbw_⟩
               ·rw [if_neg c102] at H
                exact absurd H (by simp)
              ·rw [if_neg c101] at H
               exact absurd H (by simp)
             ·rw [if_neg c100] at H
              have c100b0 : decide (0 ≤ t24) = false:=decide_eq_false c100;clear c100;obtain rfl:=Option.some.inj H;have hnb109:=NB3_1.1;have hnc109:=NB1_3.1;have hcz110_0 : wc.cell? ⟨gb3,0,none⟩ = some (.int .i64 ((rd_T75 l1 a2).f0)):=(blk_cell BK3.1 0).trans rfl;have hcz110_1 : wc.cell? ⟨gb3,1,none⟩ = some (.int .i64 ((rd_T75 l1 a2).f1)):=(blk_cell BK3.1 1).trans rfl;have hcz110_2 : wc.cell? ⟨gb3,2,none⟩ = some (.int .i64 ((rd_T75 l1 a2).f2)):=(blk_cell BK3.1 2).trans rfl;have hcz110_3 : wc.cell? ⟨gb3,3,none⟩ = some (.int .i64 ((rd_T75 l1 a2).f3)):=(blk_cell BK3.1 3).trans rfl;have hfz110_0:=blk_frozen BK3.1 0;have hfz110_1:=blk_frozen BK3.1 1;have hfz110_2:=blk_frozen BK3.1 2;have hfz110_3:=blk_frozen BK3.1 3;go_wp2_with (first | ((with_reducible refine gate_callee (f:=161) rfl ?_);refine goesL_ (some 105) rfl rfl Try.func161 (by kernel_rfl) rfl #[.int .i64 ((rd_T75 l1 a2).f1)] rfl lm_ ?_;(with_reducible refine (spec_follows.calls ((rd_T75 l1 a2).f1) true _ A97.1).mono ?_);rintro e w' ⟨rfl,⟨nd,rfl⟩⟩;refine ⟨_,rfl,?_⟩) | ((with_reducible refine gate_callee (f:=162) rfl ?_);refine goesL_ (some 109) rfl rfl Try.func162 (by kernel_rfl) rfl #[.slice (some ad2) l1.length c1,.int .i64 a2] rfl lm_ ?_;(with_reducible refine (spec_headOf.calls kj62 _ _ l1 a2 t24 _ ?side1 ?side2 A99.1).mono ?_);(case side1=>repeat (first | exact (C_below HR1.1 hbw_) | (with_reducible refine C_alloc ?_ _) | (with_reducible refine C_drewN ?_ _) | (with_reducible refine C_drew ?_)));(case side2=>exact HC1.1);rintro e w' ⟨rfl,⟨nd,rfl⟩⟩;refine ⟨_,rfl,?_⟩));go_ret;exact ⟨by first | rfl | (simp [errW_none,errW_some] <;> rfl) | (simp [*,errW_none,errW_some] <;> rfl),hbw_⟩
            ·replace c98:=Bool.eq_false_iff.mpr c98
             subst c98
             have H1 : (some true) = some r:=by rw [if_neg (show ¬ (false = true) by decide)] at H;exact H
             clear H;have H:=H1;clear H1;obtain rfl:=Option.some.inj H;have hnb111:=NB3_1.1;have hnc111:=NB1_3.1;have hcz112_0 : wc.cell? ⟨gb3,0,none⟩ = some (.int .i64 ((rd_T75 l1 a2).f0)):=(blk_cell BK3.1 0).trans rfl;have hcz112_1 : wc.cell? ⟨gb3,1,none⟩ = some (.int .i64 ((rd_T75 l1 a2).f1)):=(blk_cell BK3.1 1).trans rfl;have hcz112_2 : wc.cell? ⟨gb3,2,none⟩ = some (.int .i64 ((rd_T75 l1 a2).f2)):=(blk_cell BK3.1 2).trans rfl;have hcz112_3 : wc.cell? ⟨gb3,3,none⟩ = some (.int .i64 ((rd_T75 l1 a2).f3)):=(blk_cell BK3.1 3).trans rfl;have hfz112_0:=blk_frozen BK3.1 0;have hfz112_1:=blk_frozen BK3.1 1;have hfz112_2:=blk_frozen BK3.1 2;have hfz112_3:=blk_frozen BK3.1 3;go_wp2_with (first | ((with_reducible refine gate_callee (f:=161) rfl ?_);refine goesL_ (some 105) rfl rfl Try.func161 (by kernel_rfl) rfl #[.int .i64 ((rd_T75 l1 a2).f1)] rfl lm_ ?_;(with_reducible refine (spec_follows.calls ((rd_T75 l1 a2).f1) false _ A97.1).mono ?_);rintro e w' ⟨rfl,⟨nd,rfl⟩⟩;refine ⟨_,rfl,?_⟩));go_ret;exact ⟨by first | rfl | (simp [errW_none,errW_some] <;> rfl) | (simp [*,errW_none,errW_some] <;> rfl),hbw_⟩
  ·rw [if_neg c5] at H
   exact absurd H (by simp)
 ·rw [if_neg c4] at H
  exact absurd H (by simp)
def lnS (t : List Cls) (l : List S75) (i : Nat) : Prop:=lnA t l i ∧ (i + 1 = l.length → ¬ (7 ≤ lk l i ∧ lk l i ≤ 12)) ∧ lineOk l i
theorem spec_validLine_j2 {l : List S75} (hl0 : Aside0 (l.length ≤ 1099511627776)) {i : Nat} (hi : i < l.length) (y2 y3 : Int) : ∀ x,∃ b,Ev (fun k=>spec_validLine.j2 k l (i : Int) x (ld l i) (lk l i) y2 y3) b ∧ (b = true ↔ x = false ∧ (8 ≤ lk l i → lk l i ≤ 10 → ∃ h : Nat,hdL l i (ld l i) = (h : Int) ∧ 7 ≤ lk l h ∧ lk l h ≤ 10)):=by
 intro x
 cases x with
 | true =>
  refine ⟨false,Ev.succ ?_,by simp⟩
  simp only [spec_validLine.j2]
  exact Ev.pos (by simp) (Ev.const rfl)
 | false =>
  by_cases hf : 8 ≤ lk l i ∧ lk l i ≤ 10
  ·have hfe : spec_follows.f (lk l i) = some true:=by rw [spec_follows_ev];simp [hf]
   have hh:=spec_headOf_ev l i hi hl0.out
   obtain ⟨h1,h2⟩:=hdL_lt l i (ld l i)
   by_cases hz : hdL l i (ld l i) ≥ 0
   ·obtain ⟨h,he⟩ : ∃ h : Nat,hdL l i (ld l i) = (h : Int):=⟨(hdL l i (ld l i)).toNat,by omega⟩
    rw [he] at h1
    rw [he] at hh
    have hb : ∃ b,Ev (fun _=>if lk l h = 7 then some true else ((spec_follows.f (lk l h)).bind fun t27=>some t27)) b ∧ (b = true ↔ 7 ≤ lk l h ∧ lk l h ≤ 10):=by
     by_cases h7 : lk l h = 7
     ·exact ⟨true,Ev.pos (F:=fun _=>some true) h7 (Ev.const rfl),by simp;omega⟩
     ·refine ⟨(decide (8 ≤ lk l h) && decide (lk l h ≤ 10)),Ev.neg (G:=fun _=>(spec_follows.f (lk l h)).bind fun t27=>some t27) h7 (Ev.bind (Ev.const (spec_follows_ev _)) (Ev.const rfl)),?_⟩
      rw [Bool.and_eq_true,decide_eq_true_iff,decide_eq_true_iff]
      omega
    obtain ⟨b,hb,hbi⟩:=hb
    refine ⟨b,Ev.succ ?_,?_⟩
    ·simp only [spec_validLine.j2]
     refine Ev.neg (by simp) (Ev.bind (Ev.const hfe) (Ev.pos rfl (Ev.bind hh ?_)))
     simp only [rd_lkS]
     exact Ev.pos (by omega) (Ev.pos (by omega) (Ev.pos (by omega) hb))
    ·rw [hbi]
     constructor
     ·exact fun q=>⟨rfl,fun _ _=>⟨h,he,q⟩⟩
     ·rintro ⟨_,q⟩
      obtain ⟨h',e',q'⟩:=q hf.1 hf.2
      rw [he] at e'
      obtain rfl : h = h':=by omega
      exact q'
   ·refine ⟨false,Ev.succ ?_,fun h=>by simp at h,fun h=>?_⟩
    ·simp only [spec_validLine.j2]
     exact Ev.neg (by simp) (Ev.bind (Ev.const hfe) (Ev.pos rfl (Ev.bind hh (Ev.neg hz (Ev.const rfl)))))
    ·obtain ⟨h',e',_⟩:=h.2 hf.1 hf.2
     exact absurd (show hdL l i (ld l i) ≥ 0 by rw [e'];exact Int.natCast_nonneg h') hz
  ·have hfe : spec_follows.f (lk l i) = some false:=by
    rw [spec_follows_ev]
    refine congrArg some ?_
    cases hq : (decide (8 ≤ lk l i) && decide (lk l i ≤ 10)) with
    | false=>rfl
    | true=>exact absurd (by simpa using hq) hf
   refine ⟨true,Ev.succ ?_,fun _=>⟨rfl,fun q1 q2=>absurd ⟨q1,q2⟩ hf⟩,fun _=>rfl⟩
   simp only [spec_validLine.j2]
   exact Ev.neg (by simp) (Ev.bind (Ev.const hfe) (Ev.neg (by simp) (Ev.const rfl)))
theorem spec_validLine_j1 {l : List S75} (hl0 : Aside0 (l.length ≤ 1099511627776)) {i : Nat} (hi : i < l.length) (y2 y3 : Int) : ∀ x,∃ b,Ev (fun k=>spec_validLine.j1 k l (i : Int) x (ld l i) (lk l i) y2 y3) b ∧ (b = true ↔ x = false ∧ lineOk l i):=by
 intro x
 have J2:=spec_validLine_j2 hl0 hi y2 y3
 cases x with
 | true =>
  refine ⟨false,Ev.succ ?_,by simp⟩
  simp only [spec_validLine.j1]
  exact Ev.pos (by simp) (Ev.const rfl)
 | false =>
  by_cases h7 : lk l i = 7
  ·have n56 : ¬ (lk l i = 5 ∨ lk l i = 6):=by omega
   have hv:=spec_validChain_ev l i hi hl0.out
   cases hc : chOk l i with
   | true =>
    rw [hc] at hv
    obtain ⟨b,hb,hbi⟩:=J2 false
    refine ⟨b,Ev.succ ?_,hbi.trans ⟨fun h=>⟨rfl,fun _=>hc,fun q=>absurd q n56,h.2⟩,fun h=>⟨rfl,h.2.2.2⟩⟩⟩
    simp only [spec_validLine.j1]
    exact Ev.neg (by simp) (Ev.pos h7 (Ev.bind hv (Ev.pos rfl (Ev.neg (fun q=>n56 (.inl q)) (Ev.neg (fun q=>n56 (.inr q)) hb)))))
   | false =>
    rw [hc] at hv
    obtain ⟨b,hb,hbi⟩:=J2 true
    refine ⟨b,Ev.succ ?_,hbi.trans ⟨fun h=>by simp at h,fun h=>?_⟩⟩
    ·simp only [spec_validLine.j1]
     exact Ev.neg (by simp) (Ev.pos h7 (Ev.bind hv (Ev.neg (by simp) hb)))
    ·have:=h.2.1 h7
     rw [hc] at this
     simp at this
  ·have hv:=spec_inLoop_ev l i hi hl0.out
   by_cases h56 : lk l i = 5 ∨ lk l i = 6
   ·obtain ⟨b,hb,hbi⟩:=J2 (!(inL l i (ld l i)))
    refine ⟨b,Ev.succ ?_,hbi.trans ⟨fun h=>⟨rfl,fun q=>absurd q h7,fun _=>by simpa using h.1,h.2⟩,fun h=>⟨by simpa using h.2.2.1 h56,h.2.2.2⟩⟩⟩
    simp only [spec_validLine.j1]
    refine Ev.neg (by simp) (Ev.neg h7 ?_)
    by_cases h5 : lk l i = 5
    ·exact Ev.pos h5 (Ev.bind hv hb)
    ·exact Ev.neg h5 (Ev.pos (h56.resolve_left h5) (Ev.bind hv hb))
   ·obtain ⟨b,hb,hbi⟩:=J2 false
    refine ⟨b,Ev.succ ?_,hbi.trans ⟨fun h=>⟨rfl,fun q=>absurd q h7,fun q=>absurd q h56,h.2⟩,fun h=>⟨rfl,h.2.2.2⟩⟩⟩
    simp only [spec_validLine.j1]
    exact Ev.neg (by simp) (Ev.neg h7 (Ev.neg (fun q=>h56 (.inl q)) (Ev.neg (fun q=>h56 (.inr q)) hb)))
theorem opens_val (a : Int) : spec_opens.f a = some (decide (7 ≤ a ∧ a ≤ 12)):=by
 rw [spec_opens_ev]
 refine congrArg some ?_
 by_cases h1 : 7 ≤ a <;> by_cases h2 : a ≤ 12 <;> simp [h1,h2]
theorem spec_validLine_ev {t : List Cls} {l : List S75} (ht : t.length ≤ 9223372036854775807) (hl0 : Aside0 (l.length ≤ 1099511627776)) {i : Nat} (hi : i < l.length) (hA : ∀ j,j < i → lnA t l j) : ∃ b,Ev (fun k=>spec_validLine.f k t l (i : Int)) b ∧ (b = true ↔ lnS t l i):=by
 have J1:=spec_validLine_j1 hl0 hi (rd_T75 l (i : Int)).f2 (rd_T75 l (i : Int)).f3
 obtain ⟨hp1,hp2⟩:=pd_in hA
 have hnum:=spec_validNumbers_ev t (rd_T75 l (i : Int)) ht
 have hw : Aside0 (wrap64 ((i : Int) + 1) = ((i + 1 : Nat) : Int)):=⟨wrap_natS hi hl0.out⟩
 have hwp : Aside0 (wrap64 (pd l i + 1) = pd l i + 1):=⟨wrap_in (by omega) (by omega)⟩
 let st : Prop:=(7 ≤ pk l i ∧ pk l i ≤ 12 → ld l i = pd l i + 1) ∧ (¬ (7 ≤ pk l i ∧ pk l i ≤ 12) → ld l i ≤ pd l i)
 have J0 : ∀ x,(x = false → 0 ≤ ld l i) → ∃ b,Ev (fun k=>spec_validLine.j0 k l (i : Int) x (ld l i) (lk l i) (rd_T75 l (i : Int)).f2 (rd_T75 l (i : Int)).f3) b ∧ (b = true ↔ x = false ∧ st ∧ (i + 1 = l.length → ¬ (7 ≤ lk l i ∧ lk l i ≤ 12)) ∧ lineOk l i):=by
  intro x hx
  cases x with
  | true =>
   refine ⟨false,Ev.succ ?_,by simp⟩
   simp only [spec_validLine.j0]
   exact Ev.pos (by simp) (Ev.const rfl)
  | false =>
   have hx0:=hx rfl
   have last : st → ∃ b,Ev (fun k=>if wrap64 ((i : Int) + 1) = (l.length : Int) then ((spec_opens.f (lk l i)).bind fun t11=>(spec_validLine.j1 k l (i : Int) t11 (ld l i) (lk l i) (rd_T75 l (i : Int)).f2 (rd_T75 l (i : Int)).f3)) else (spec_validLine.j1 k l (i : Int) false (ld l i) (lk l i) (rd_T75 l (i : Int)).f2 (rd_T75 l (i : Int)).f3)) b ∧ (b = true ↔ false = false ∧ st ∧ (i + 1 = l.length → ¬ (7 ≤ lk l i ∧ lk l i ≤ 12)) ∧ lineOk l i):=by
    intro hst
    rw [hw.out]
    by_cases he : i + 1 = l.length
    ·obtain ⟨b,hb,hbi⟩:=J1 (decide (7 ≤ lk l i ∧ lk l i ≤ 12))
     refine ⟨b,Ev.pos (by omega) (Ev.bind (Ev.const (opens_val _)) hb),hbi.trans ⟨fun h=>⟨rfl,hst,fun _=>of_decide_eq_false h.1,h.2⟩,fun h=>⟨decide_eq_false (h.2.2.1 he),h.2.2.2⟩⟩⟩
    ·obtain ⟨b,hb,hbi⟩:=J1 false
     exact ⟨b,Ev.neg (by omega) hb,hbi.trans ⟨fun h=>⟨rfl,hst,fun q=>absurd q he,h.2⟩,fun h=>⟨rfl,h.2.2.2⟩⟩⟩
   have bad : ¬ st → ∃ b,Ev (fun k=>spec_validLine.j1 k l (i : Int) true (ld l i) (lk l i) (rd_T75 l (i : Int)).f2 (rd_T75 l (i : Int)).f3) b ∧ (b = true ↔ false = false ∧ st ∧ (i + 1 = l.length → ¬ (7 ≤ lk l i ∧ lk l i ≤ 12)) ∧ lineOk l i):=by
    intro hst
    obtain ⟨b,hb,hbi⟩:=J1 true
    exact ⟨b,hb,hbi.trans ⟨fun h=>by simp at h,fun h=>absurd h.2.1 hst⟩⟩
   by_cases h0 : i = 0
   ·have hst : st ↔ ld l i = 0:=by
     show ((7 ≤ pk l i ∧ pk l i ≤ 12 → ld l i = pd l i + 1) ∧ (¬ (7 ≤ pk l i ∧ pk l i ≤ 12) → ld l i ≤ pd l i)) ↔ _
     have e1 : pk l i = 7:=by rw [h0,pk]
     have e2 : pd l i = -1:=by rw [h0,pd]
     rw [e1,e2]
     omega
    by_cases hz : ld l i = 0
    ·obtain ⟨b,hb,hbi⟩:=last (hst.2 hz)
     refine ⟨b,Ev.succ ?_,hbi⟩
     simp only [spec_validLine.j0]
     exact Ev.neg (by simp) (Ev.pos (by omega) (Ev.pos hz (Ev.neg (by omega) hb)))
    ·obtain ⟨b,hb,hbi⟩:=bad (fun h=>hz (hst.1 h))
     refine ⟨b,Ev.succ ?_,hbi⟩
     simp only [spec_validLine.j0]
     exact Ev.neg (by simp) (Ev.pos (by omega) (Ev.neg hz hb))
   ·obtain ⟨i',rfl⟩ : ∃ i',i = i' + 1:=⟨i - 1,by omega⟩
    have hw1 : Aside0 (wrap64 (((i' + 1 : Nat) : Int) - 1) = (i' : Int)):=⟨by rw [wrap_in (by omega) (by have:=hl0.out;omega)];omega⟩
    have hrd : (rd_T75 l (i' : Int)).f0 = pd l (i' + 1):=rfl
    have hrk : (rd_T75 l (i' : Int)).f1 = pk l (i' + 1):=rfl
    have enter : ∀ {b : Bool},Ev (fun k=>if ld l (i' + 1) > pd l (i' + 1) + 1 then spec_validLine.j1 k l ((i' + 1 : Nat) : Int) true (ld l (i' + 1)) (lk l (i' + 1)) (rd_T75 l ((i' + 1 : Nat) : Int)).f2 (rd_T75 l ((i' + 1 : Nat) : Int)).f3 else ((spec_opens.f (pk l (i' + 1))).bind fun t14=>(if (t14 != (ld l (i' + 1) == pd l (i' + 1) + 1)) = true then (spec_validLine.j1 k l ((i' + 1 : Nat) : Int) true (ld l (i' + 1)) (lk l (i' + 1)) (rd_T75 l ((i' + 1 : Nat) : Int)).f2 (rd_T75 l ((i' + 1 : Nat) : Int)).f3) else (if wrap64 (((i' + 1 : Nat) : Int) + 1) = (l.length : Int) then ((spec_opens.f (lk l (i' + 1))).bind fun t16=>(spec_validLine.j1 k l ((i' + 1 : Nat) : Int) t16 (ld l (i' + 1)) (lk l (i' + 1)) (rd_T75 l ((i' + 1 : Nat) : Int)).f2 (rd_T75 l ((i' + 1 : Nat) : Int)).f3)) else (spec_validLine.j1 k l ((i' + 1 : Nat) : Int) false (ld l (i' + 1)) (lk l (i' + 1)) (rd_T75 l ((i' + 1 : Nat) : Int)).f2 (rd_T75 l ((i' + 1 : Nat) : Int)).f3))))) b → Ev (fun k=>spec_validLine.j0 k l ((i' + 1 : Nat) : Int) false (ld l (i' + 1)) (lk l (i' + 1)) (rd_T75 l ((i' + 1 : Nat) : Int)).f2 (rd_T75 l ((i' + 1 : Nat) : Int)).f3) b:=by
     intro b hb
     refine Ev.succ ?_
     simp only [spec_validLine.j0,hw1.out,hrd,hrk,hwp.out]
     exact Ev.neg (by simp) (Ev.neg (by omega) (Ev.pos (by omega) (Ev.pos (by omega) (Ev.pos (by omega) hb))))
    by_cases hgt : ld l (i' + 1) > pd l (i' + 1) + 1
    ·obtain ⟨b,hb,hbi⟩:=bad (fun h=>by
      have q1:=h.1
      have q2:=h.2
      omega)
     exact ⟨b,enter (Ev.pos hgt hb),hbi⟩
    ·have hop:=opens_val (pk l (i' + 1))
     by_cases hc : (7 ≤ pk l (i' + 1) ∧ pk l (i' + 1) ≤ 12) ↔ ld l (i' + 1) = pd l (i' + 1) + 1
     ·obtain ⟨b,hb,hbi⟩:=last ⟨fun q=>hc.1 q,fun q=>by
       have : ¬ ld l (i' + 1) = pd l (i' + 1) + 1:=fun q'=>q (hc.2 q')
       omega⟩
      refine ⟨b,enter (Ev.neg hgt (Ev.bind (Ev.const hop) (Ev.neg ?_ hb))),hbi⟩
      rw [show (ld l (i' + 1) == pd l (i' + 1) + 1) = decide (ld l (i' + 1) = pd l (i' + 1) + 1) from rfl]
      intro hq
      rw [bne_iff_ne] at hq
      exact hq (decide_eq_decide.2 hc)
     ·obtain ⟨b,hb,hbi⟩:=bad (fun h=>hc ⟨fun q=>h.1 q,fun q=>by
       refine Classical.byContradiction (fun q'=>?_)
       have:=h.2 q'
       omega⟩)
      refine ⟨b,enter (Ev.neg hgt (Ev.bind (Ev.const hop) (Ev.pos ?_ hb))),hbi⟩
      rw [show (ld l (i' + 1) == pd l (i' + 1) + 1) = decide (ld l (i' + 1) = pd l (i' + 1) + 1) from rfl]
      rw [bne_iff_ne]
      exact fun h=>hc (decide_eq_decide.1 h)
 unfold spec_validLine.f
 simp only [rd_ldS,rd_lkS]
 cases hn : numOk t (l.getD i z75) with
 | false =>
  have e : numOk t (rd_T75 l (i : Int)) = false:=hn
  rw [e] at hnum
  obtain ⟨b,hb,hbi⟩:=J0 true (fun h=>by simp at h)
  refine ⟨b,Ev.pos (by omega) (Ev.pos (by omega) (Ev.bind hnum (Ev.neg (by simp) hb))),hbi.trans ⟨fun h=>by simp at h,fun h=>?_⟩⟩
  rw [h.1.1] at hn
  simp at hn
 | true =>
  have e : numOk t (rd_T75 l (i : Int)) = true:=hn
  rw [e] at hnum
  obtain ⟨b,hb,hbi⟩:=J0 (!(decide (0 ≤ ld l i) && decide (ld l i ≤ 5))) (fun h=>by simp at h;exact h.1)
  refine ⟨b,Ev.pos (by omega) (Ev.pos (by omega) (Ev.bind hnum (Ev.pos rfl (Ev.bind (Ev.const (spec_inRange_ev _ _ _)) hb)))),hbi.trans ⟨fun h=>?_,fun h=>?_⟩⟩
  ·have h1 : 0 ≤ ld l i ∧ ld l i ≤ 5:=by simpa using h.1
   exact ⟨⟨hn,h1.1,h1.2,h.2.1.1,h.2.1.2⟩,h.2.2.1,h.2.2.2⟩
  ·have h1 : (!(decide (0 ≤ ld l i) && decide (ld l i ≤ 5))) = false:=by simp [h.1.2.1,h.1.2.2.1]
   exact ⟨h1,⟨h.1.2.2.2.1,h.1.2.2.2.2⟩,h.2.1,h.2.2⟩
end Go.Proofs.Ytacgehaipacehaa.P
namespace Go.Proofs.Ytacgehaipacehaa.P
open Go.RowKit Go.Proofs.YtacgehaipacehaaW.PrintWords Go.Proofs.YtacgehaipacehaaW.PrintLast Go.Proofs.YtacgehaipacehaaW.PrintMore
attribute [local go_sem] max2_int min2_int max_two min_two max_three min_three max_four min_four
set_option linter.unusedVariables false
set_option linter.unusedSimpArgs false
def spec_validProgram.l0 : Nat → List (S75) → Int → List (S125) → Option (Bool)
 | 0,_,_,_=>none
 | k + 1,x1,x5,x2000=>if x5 < (x1.length : Int) then ((spec_validLine.f k x2000 x1 x5).bind fun t2=>(if t2 = true then (spec_validProgram.l0 k x1 (wrap64 (x5 + 1)) x2000) else (some false))) else ((spec_validTree.f x2000).bind fun t3=>(if t3 = true then (some (decide ((x1.length : Int) ≤ 24))) else (some false)))
def spec_validProgram.f (k : Nat) (l0_0 : List (S125)) (l1 : List (S75)) : Option (Bool):=spec_validProgram.l0 k l1 0 l0_0
theorem spec_validProgram.mono_l : ∀ k,(∀ y0 y1 y2,LeO (spec_validProgram.l0 k y0 y1 y2) (spec_validProgram.l0 (k + 1) y0 y1 y2))
 | 0=>fun _ _ _ r h=>by simp [spec_validProgram.l0] at h
 | k + 1=>by
  have ih0:=spec_validProgram.mono_l k
  ·intro y0 y1 y2
   unfold spec_validProgram.l0
   repeat' first
   | (with_reducible exact ih0 _ _ _)
   | (with_reducible exact spec_validLine.mono _ _ _ _)
   | (with_reducible exact LeO.refl _)
   | (with_reducible exact LeO.none _)
   | (with_reducible refine LeO.ite ?_ ?_)
   | (with_reducible refine LeO.bind ?_ (fun _=>?_))
theorem spec_validProgram.mono : ∀ a0 a1 k,LeO (spec_validProgram.f k a0 a1) (spec_validProgram.f (k + 1) a0 a1):=by
 intro a0 a1 k
 have ih0:=spec_validProgram.mono_l k
 unfold spec_validProgram.f
 repeat' first
   | (with_reducible exact ih0 _ _ _)
   | (with_reducible exact spec_validLine.mono _ _ _ _)
   | (with_reducible exact LeO.refl _)
   | (with_reducible exact LeO.none _)
   | (with_reducible refine LeO.ite ?_ ?_)
   | (with_reducible refine LeO.bind ?_ (fun _=>?_))
set_option maxHeartbeats 8000000 in
set_option maxRecDepth 100000 in
theorem spec_validProgram.calls (k : Nat) (A0_0 : Option Addr) (c0_0 : Nat) (l0_0 : List (S125)) (A1 : Option Addr) (c1 : Nat) (l1 : List (S75)) (r : Bool) (w : World) (hr0_0 : Kd.C k125 w A0_0 l0_0.length l0_0) (hc0_0 : l0_0.length ≤ c0_0) (hr1 : Kd.C k75 w A1 l1.length l1) (hc1 : l1.length ≤ c1) (h : spec_validProgram.f k l0_0 l1 = some r) :
  Calls Try.prog 96 #[.agg #[.slice A0_0 l0_0.length c0_0],.slice A1 l1.length c1] w fun e w'=>e = .returned (.bool r) ∧ Below w.heap.size w w':=by
 have hu25:=Try.underlying25;have HR0_0:=a0_ hr0_0;have HC0_0:=a0_ hc0_0;clear hr0_0 hc0_0;have HR1:=a0_ hr1;have HC1:=a0_ hc1;clear hr1 hc1;have HB:=a0_ (Below.refl w.heap.size w);have H : (spec_validProgram.l0 k l1 0 l0_0) = some r:=h;clear h;have H':=a0_ H;clear H;go_enter Try.func96,Try.ntmps96;go_wp2_with (first | ((with_reducible refine gate_dst (N:=2) rfl ?_);(try (refine gate_guard (by rfl) ?_;dsimp only));refine box_event ?hg (N:=2) ?hd (cs:=#[.slice A0_0 l0_0.length c0_0]) (t:=25) ?hr ?_;(case hd=>rfl);(case hg=>rfl);(case hr=>first | (go_simp;done) | (go_simp;rfl));intro gb1 hg w3 hbox hb;have BK1:=a0_ (hbox);have GW1:=a0_ ((by rw [hg];exact (below_size hbw_) : w.heap.size ≤ gb1));have GE1:=a0_ ((by rw [hg];exact (below_size hbw_) : w.heap.size ≤ gb1));replace HB:=a0_ (below_step hbw_ hb);clear hb hbox hg));go_loopg [5] k (fun kq v5 w'=>∃ (x5_1 : Int),v5 = .int .i64 x5_1 ∧ Aside0 (spec_validProgram.l0 kq l1 x5_1 l0_0 = some r) ∧ Aside0 (kq ≤ k) ∧ Aside0 (w'.heap[gb1]? = some (.cells #[(.slice A0_0 l0_0.length c0_0)] 25 (0,0))) ∧ Aside0 (Below w.heap.size w w'))
 case atStart=>exact ⟨(0),(by first | rfl | (simp;done) | (simp [*];done)),H',⟨Nat.le_refl _⟩,⟨by (with_reducible repeat (first | refine blk_drewN ?_ _ | refine blk_drew ?_ | refine blk_alloc ?_ _));exact BK1.out⟩,⟨hbw_⟩⟩
 case round =>
  clear H';(try clear c1);(try clear p2);obtain ⟨x5_1,rfl,HA,HK1,BK1,HB⟩:=hrel
  cases gk with
  | zero=>exact absurd HA.out (by simp [spec_validProgram.l0])
  | succ k1 =>
   have H:=HA.out;clear HA;simp only [spec_validProgram.l0] at H;by_cases c4 : x5_1 < (l1.length : Int)
   ·rw [if_pos c4] at H
    have c4b0 : decide (x5_1 < (l1.length : Int)) = true:=decide_eq_true c4;clear c4;replace H:=Option.bind_eq_some_iff.mp H;obtain ⟨t2,A50,H⟩:=H;(try dsimp only at H);have A5:=a0_ A50;clear A50;by_cases c6 : t2 = true
    ·subst c6
     have H1 : (spec_validProgram.l0 k1 l1 (wrap64 (x5_1 + 1)) l0_0) = some r:=by rw [if_pos rfl] at H;exact H
     clear H;have H:=H1;clear H1;have H':=a0_ H;clear H;have hcz7_0 : wr.cell? ⟨gb1,0,none⟩ = some (.slice A0_0 l0_0.length c0_0):=(blk_cell BK1.out 0).trans rfl;have hfz7_0:=blk_frozen BK1.out 0;go_wp2_with (first | ((with_reducible refine gate_callee (f:=139) rfl ?_);refine goesL_ (some 15) rfl rfl Try.func139 (by kernel_rfl) rfl #[.agg #[.slice A0_0 l0_0.length c0_0],.slice A1 l1.length c1,.int .i64 x5_1] rfl lm_ ?_;(with_reducible refine (spec_validLine.calls k1 _ _ l0_0 _ _ l1 x5_1 true _ ?side1 ?side2 ?side3 ?side4 A5.out).mono ?_);(case side1=>exact cc_ (Kd.C_below HR0_0.out HB.out));(case side2=>exact HC0_0.out);(case side3=>exact cc_ (Kd.C_below HR1.out HB.out));(case side4=>exact HC1.out);rintro e w8 ⟨rfl,hb⟩;refine ⟨_,rfl,?_⟩;replace BK1:=kb_ BK1 hb;replace HB:=a0_ (below_step hbw_ hb);(try clear hb);(try clear hb2);(try clear hk);(try clear hi)));go_roundg k1
     case measure=>have:=HK1.out;omega
     case rel=>exact ⟨(wrap64 (x5_1 + 1)),(by first | rfl | (simp;done) | (simp [*];done)),H',⟨by have:=HK1.out;omega⟩,⟨by (with_reducible repeat (first | refine blk_drewN ?_ _ | refine blk_drew ?_ | refine blk_alloc ?_ _));exact BK1.out⟩,⟨hbw_⟩⟩
    ·replace c6:=Bool.eq_false_iff.mpr c6
     subst c6
     have H1 : (some false) = some r:=by rw [if_neg (show ¬ (false = true) by decide)] at H;exact H
     clear H;have H:=H1;clear H1;obtain rfl:=Option.some.inj H;have hcz9_0 : wr.cell? ⟨gb1,0,none⟩ = some (.slice A0_0 l0_0.length c0_0):=(blk_cell BK1.out 0).trans rfl;have hfz9_0:=blk_frozen BK1.out 0;go_wp2_with (first | ((with_reducible refine gate_callee (f:=139) rfl ?_);refine goesL_ (some 15) rfl rfl Try.func139 (by kernel_rfl) rfl #[.agg #[.slice A0_0 l0_0.length c0_0],.slice A1 l1.length c1,.int .i64 x5_1] rfl lm_ ?_;(with_reducible refine (spec_validLine.calls k1 _ _ l0_0 _ _ l1 x5_1 false _ ?side1 ?side2 ?side3 ?side4 A5.out).mono ?_);(case side1=>exact cc_ (Kd.C_below HR0_0.out HB.out));(case side2=>exact HC0_0.out);(case side3=>exact cc_ (Kd.C_below HR1.out HB.out));(case side4=>exact HC1.out);rintro e w10 ⟨rfl,hb⟩;refine ⟨_,rfl,?_⟩;replace BK1:=kb_ BK1 hb;replace HB:=a0_ (below_step hbw_ hb);(try clear hb);(try clear hb2);(try clear hk);(try clear hi)));go_ret;exact ⟨by first | rfl | (simp [errW_none,errW_some] <;> rfl) | (simp [*,errW_none,errW_some] <;> rfl),hbw_⟩
   ·rw [if_neg c4] at H
    have c4b0 : decide (x5_1 < (l1.length : Int)) = false:=decide_eq_false c4;clear c4;replace H:=Option.bind_eq_some_iff.mp H;obtain ⟨t3,A110,H⟩:=H;(try dsimp only at H);have A11:=a0_ A110;clear A110;by_cases c12 : t3 = true
    ·subst c12
     have H1 : (some (decide ((l1.length : Int) ≤ 24))) = some r:=by rw [if_pos rfl] at H;exact H
     clear H;have H:=H1;clear H1;obtain rfl:=Option.some.inj H;have hcz13_0 : wr.cell? ⟨gb1,0,none⟩ = some (.slice A0_0 l0_0.length c0_0):=(blk_cell BK1.out 0).trans rfl;have hfz13_0:=blk_frozen BK1.out 0;go_wp2_with (first | ((with_reducible refine gate_callee (f:=107) rfl ?_);refine goesL_ (some 18) rfl rfl Try.func107 (by kernel_rfl) rfl #[.agg #[.slice A0_0 l0_0.length c0_0]] rfl lm_ ?_;(with_reducible refine (spec_validTree.calls _ _ l0_0 true _ ?side1 ?side2 A11.out).mono ?_);(case side1=>exact cc_ (Kd.C_below HR0_0.out HB.out));(case side2=>exact HC0_0.out);rintro e w14 ⟨rfl,hb⟩;refine ⟨_,rfl,?_⟩;replace BK1:=kb_ BK1 hb;replace HB:=a0_ (below_step hbw_ hb);(try clear hb);(try clear hb2);(try clear hk);(try clear hi)));go_ret;exact ⟨by first | rfl | (simp [errW_none,errW_some] <;> rfl) | (simp [*,errW_none,errW_some] <;> rfl),hbw_⟩
    ·replace c12:=Bool.eq_false_iff.mpr c12
     subst c12
     have H1 : (some false) = some r:=by rw [if_neg (show ¬ (false = true) by decide)] at H;exact H
     clear H;have H:=H1;clear H1;obtain rfl:=Option.some.inj H;have hcz15_0 : wr.cell? ⟨gb1,0,none⟩ = some (.slice A0_0 l0_0.length c0_0):=(blk_cell BK1.out 0).trans rfl;have hfz15_0:=blk_frozen BK1.out 0;go_wp2_with (first | ((with_reducible refine gate_callee (f:=107) rfl ?_);refine goesL_ (some 18) rfl rfl Try.func107 (by kernel_rfl) rfl #[.agg #[.slice A0_0 l0_0.length c0_0]] rfl lm_ ?_;(with_reducible refine (spec_validTree.calls _ _ l0_0 false _ ?side1 ?side2 A11.out).mono ?_);(case side1=>exact cc_ (Kd.C_below HR0_0.out HB.out));(case side2=>exact HC0_0.out);rintro e w16 ⟨rfl,hb⟩;refine ⟨_,rfl,?_⟩;replace BK1:=kb_ BK1 hb;replace HB:=a0_ (below_step hbw_ hb);(try clear hb);(try clear hb2);(try clear hk);(try clear hi)));go_ret;exact ⟨by first | rfl | (simp [errW_none,errW_some] <;> rfl) | (simp [*,errW_none,errW_some] <;> rfl),hbw_⟩
end Go.Proofs.Ytacgehaipacehaa.P
namespace Go.Proofs.Ytacgehaipacehaa.P
open Go.RowKit Go.Proofs.YtacgehaipacehaaW.PrintWords Go.Proofs.YtacgehaipacehaaW.PrintLast Go.Proofs.YtacgehaipacehaaW.PrintMore
attribute [local go_sem] max2_int min2_int max_two min_two max_three min_three max_four min_four
set_option linter.unusedVariables false
set_option linter.unusedSimpArgs false
def spec_ValidProgram.f (k : Nat) (l0_0 : List (S125)) (l1 : List (S75)) : Option (Bool):=(spec_validProgram.f k l0_0 l1).bind fun t2=>(some t2)
theorem spec_ValidProgram.mono : ∀ a0 a1 k,LeO (spec_ValidProgram.f k a0 a1) (spec_ValidProgram.f (k + 1) a0 a1):=by
 intro a0 a1 k
 unfold spec_ValidProgram.f
 repeat' first
   | (with_reducible exact spec_validProgram.mono _ _ _)
   | (with_reducible exact LeO.refl _)
   | (with_reducible exact LeO.none _)
   | (with_reducible refine LeO.ite ?_ ?_)
   | (with_reducible refine LeO.bind ?_ (fun _=>?_))
set_option maxHeartbeats 8000000 in
set_option maxRecDepth 100000 in
theorem spec_ValidProgram.calls (k : Nat) (A0_0 : Option Addr) (c0_0 : Nat) (l0_0 : List (S125)) (A1 : Option Addr) (c1 : Nat) (l1 : List (S75)) (r : Bool) (w : World) (hr0_0 : Kd.C k125 w A0_0 l0_0.length l0_0) (hc0_0 : l0_0.length ≤ c0_0) (hr1 : Kd.C k75 w A1 l1.length l1) (hc1 : l1.length ≤ c1) (h : spec_ValidProgram.f k l0_0 l1 = some r) :
  Calls Try.prog 43 #[.agg #[.slice A0_0 l0_0.length c0_0],.slice A1 l1.length c1] w fun e w'=>e = .returned (.bool r) ∧ Below w.heap.size w w':=by
 have hu25:=Try.underlying25;have HR0_0:=a0_ hr0_0;have HC0_0:=a0_ hc0_0;clear hr0_0 hc0_0;have HR1:=a0_ hr1;have HC1:=a0_ hc1;clear hr1 hc1;have HB:=a0_ (Below.refl w.heap.size w);have H : ((spec_validProgram.f k l0_0 l1).bind fun t2=>(some t2)) = some r:=h;clear h;replace H:=Option.bind_eq_some_iff.mp H;obtain ⟨t2,A30,H⟩:=H;replace H : (some t2) = some r:=H;have A3:=a0_ A30;clear A30;obtain rfl:=Option.some.inj H;go_enter Try.func43,Try.ntmps43;go_wp2_with (first | ((with_reducible refine gate_dst (N:=2) rfl ?_);refine box_event ?hg (N:=2) ?hd (cs:=#[.slice A0_0 l0_0.length c0_0]) (t:=25) ?hr ?_;(case hd=>rfl);(case hg=>rfl);(case hr=>first | (go_simp;done) | (go_simp;rfl));intro gb1 hg w4 hbox hb;have BK1:=a0_ (hbox);have GW1:=a0_ ((by rw [hg];exact (below_size hbw_) : w.heap.size ≤ gb1));have GE1:=a0_ ((by rw [hg];exact (below_size hbw_) : w.heap.size ≤ gb1));replace HB:=a0_ (below_step hbw_ hb);clear hb hbox hg;have hcz5_0 : w4.cell? ⟨gb1,0,none⟩ = some (.slice A0_0 l0_0.length c0_0):=(blk_cell BK1.out 0).trans rfl;have hfz5_0:=blk_frozen BK1.out 0) | ((with_reducible refine gate_callee (f:=96) rfl ?_);refine goesL_ (some 7) rfl rfl Try.func96 (by kernel_rfl) rfl #[.agg #[.slice A0_0 l0_0.length c0_0],.slice A1 l1.length c1] rfl lm_ ?_;(with_reducible refine (spec_validProgram.calls k _ _ l0_0 _ _ l1 t2 _ ?side1 ?side2 ?side3 ?side4 A3.out).mono ?_);(case side1=>exact cc_ (Kd.C_below HR0_0.out HB.out));(case side2=>exact HC0_0.out);(case side3=>exact cc_ (Kd.C_below HR1.out HB.out));(case side4=>exact HC1.out);rintro e w6 ⟨rfl,hb⟩;refine ⟨_,rfl,?_⟩;replace BK1:=kb_ BK1 hb;replace HB:=a0_ (below_step hbw_ hb);(try clear hb);(try clear hb2);(try clear hk);(try clear hi)));go_ret;exact ⟨by first | rfl | (simp [errW_none,errW_some] <;> rfl) | (simp [*,errW_none,errW_some] <;> rfl),hbw_⟩
theorem spec_ValidProgram_ev (t : List Cls) (l : List S75) (hs : smT t = true) (ht : t.length ≤ 9223372036854775807) (hl : l.length ≤ 1099511627776) : ∃ b,Ev (fun k=>spec_ValidProgram.f k t l) b ∧ (b = true ↔ vP t l):=by
 have hl0 : Aside0 (l.length ≤ 1099511627776):=⟨hl⟩
 clear hl
 have hv : spec_validTree.f t = some (vT t):=by rw [spec_validTree.f,if_pos hs]
 have key : ∀ d i,i + d = l.length → (∀ j,j < i → lnA t l j) → ∃ b,Ev (fun k=>spec_validProgram.l0 k l (i : Int) t) b ∧ (b = true ↔ (∀ j,i ≤ j → j < l.length → lnS t l j) ∧ vT t = true ∧ l.length ≤ 24):=by
  intro d
  induction d with
  | zero =>
   intro i hi hA
   have e1 : ∀ j,i ≤ j → j < l.length → lnS t l j:=fun j h1 h2=>by omega
   cases hvt : vT t with
   | true =>
    rw [hvt] at hv
    refine ⟨decide ((l.length : Int) ≤ 24),Ev.succ ?_,?_⟩
    ·simp only [spec_validProgram.l0]
     exact Ev.neg (by omega) (Ev.bind (Ev.const hv) (Ev.pos rfl (Ev.const rfl)))
    ·rw [decide_eq_true_iff]
     exact ⟨fun h=>⟨e1,rfl,by omega⟩,fun h=>by have:=h.2.2;omega⟩
   | false =>
    rw [hvt] at hv
    refine ⟨false,Ev.succ ?_,by simp⟩
    simp only [spec_validProgram.l0]
    exact Ev.neg (by omega) (Ev.bind (Ev.const hv) (Ev.neg (by simp) (Ev.const rfl)))
  | succ d ih =>
   intro i hi hA
   have hlt : i < l.length:=by omega
   have hw : Aside0 (wrap64 ((i : Int) + 1) = ((i + 1 : Nat) : Int)):=⟨wrap_natS hlt hl0.out⟩
   obtain ⟨b,hb,hbi⟩:=spec_validLine_ev ht hl0 hlt hA
   cases b with
   | true =>
    have hn:=hbi.1 rfl
    obtain ⟨b2,hb2,hb2i⟩:=ih (i + 1) (by omega) (fun j hj=>by
     by_cases e : j = i
     ·rw [e];exact hn.1
     ·exact hA j (by omega))
    refine ⟨b2,Ev.succ ?_,hb2i.trans ⟨fun h=>⟨fun j hj hj2=>?_,h.2⟩,fun h=>⟨fun j hj hj2=>h.1 j (by omega) hj2,h.2⟩⟩⟩
    ·simp only [spec_validProgram.l0,hw.out]
     exact Ev.pos (by omega) (Ev.bind hb (Ev.pos rfl hb2))
    ·by_cases e : j = i
     ·rw [e];exact hn
     ·exact h.1 j (by omega) hj2
   | false =>
    refine ⟨false,Ev.succ ?_,fun h=>by simp at h,fun h=>hbi.2 (h.1 i (Nat.le_refl _) hlt)⟩
    simp only [spec_validProgram.l0]
    exact Ev.pos (by omega) (Ev.bind hb (Ev.neg (by simp) (Ev.const rfl)))
 obtain ⟨b,hb,hbi⟩:=key l.length 0 (by omega) (fun j hj=>by omega)
 refine ⟨b,?_,hbi.trans ⟨fun h=>?_,fun h=>?_⟩⟩
 ·unfold spec_ValidProgram.f
  refine Ev.bind (x:=b) ?_ (Ev.const rfl)
  unfold spec_validProgram.f
  exact hb
 ·refine ⟨h.2.1,h.2.2,fun j hj=>(h.1 j (Nat.zero_le _) hj).1,fun hp hk=>?_,fun j hj=>(h.1 j (Nat.zero_le _) hj).2.2⟩
  have hlast:=(h.1 (l.length - 1) (Nat.zero_le _) (by omega)).2.1 (by omega)
  obtain ⟨n,hn⟩ : ∃ n,l.length = n + 1:=⟨l.length - 1,by omega⟩
  rw [hn,pk] at hk
  rw [hn,Nat.add_sub_cancel] at hlast
  exact hlast hk
 ·refine ⟨fun j _ hj=>⟨h.2.2.1 j hj,fun e hk=>?_,h.2.2.2.2 j hj⟩,h.1,h.2.1⟩
  have:=h.2.2.2.1 (by omega)
  rw [← e,pk] at this
  exact this hk
end Go.Proofs.Ytacgehaipacehaa.P
namespace Go.Proofs.Ytacgehaipacehaa.P
open Go.RowKit Go.Proofs.YtacgehaipacehaaW.PrintWords Go.Proofs.YtacgehaipacehaaW.PrintLast Go.Proofs.YtacgehaipacehaaW.PrintMore
attribute [local go_sem] max2_int min2_int max_two min_two max_three min_three max_four min_four
set_option linter.unusedVariables false
set_option linter.unusedSimpArgs false
def impl_endOf.l0 : Nat → List (S75) → Int → Int → Option (Int)
 | 0,_,_,_=>none
 | k + 1,x0,x1,x5=>if x5 < (x0.length : Int) then (if 0 ≤ x5 then (if 0 ≤ x1 then (if x1 < (x0.length : Int) then (if ((rd_T75 x0 x5).f0) > ((rd_T75 x0 x1).f0) then (impl_endOf.l0 k x0 x1 (wrap64 (x5 + 1))) else (some x5)) else (none)) else (none)) else (none)) else (some x5)
def impl_endOf.f (k : Nat) (l0 : List (S75)) (a1 : Int) : Option (Int):=impl_endOf.l0 k l0 a1 (wrap64 (a1 + 1))
theorem impl_endOf.mono_l : ∀ k,(∀ y0 y1 y2,LeO (impl_endOf.l0 k y0 y1 y2) (impl_endOf.l0 (k + 1) y0 y1 y2))
 | 0=>fun _ _ _ r h=>by simp [impl_endOf.l0] at h
 | k + 1=>by
  have ih0:=impl_endOf.mono_l k
  ·intro y0 y1 y2
   unfold impl_endOf.l0
   repeat' first
   | (with_reducible exact ih0 _ _ _)
   | (with_reducible exact LeO.refl _)
   | (with_reducible exact LeO.none _)
   | (with_reducible refine LeO.ite ?_ ?_)
   | (with_reducible refine LeO.bind ?_ (fun _=>?_))
theorem impl_endOf.mono : ∀ a0 a1 k,LeO (impl_endOf.f k a0 a1) (impl_endOf.f (k + 1) a0 a1):=by
 intro a0 a1 k
 have ih0:=impl_endOf.mono_l k
 unfold impl_endOf.f
 repeat' first
   | (with_reducible exact ih0 _ _ _)
   | (with_reducible exact LeO.refl _)
   | (with_reducible exact LeO.none _)
   | (with_reducible refine LeO.ite ?_ ?_)
   | (with_reducible refine LeO.bind ?_ (fun _=>?_))
set_option maxHeartbeats 8000000 in
set_option maxRecDepth 100000 in
theorem impl_endOf.calls (k : Nat) (A0 : Option Addr) (c0 : Nat) (l0 : List (S75)) (a1 : Int) (r : Int) (w : World) (hr0 : Kd.C k75 w A0 l0.length l0) (hc0 : l0.length ≤ c0) (h : impl_endOf.f k l0 a1 = some r) :
  Calls Try.prog 144 #[.slice A0 l0.length c0,.int .i64 a1] w fun e w'=>e = .returned (.int .i64 r) ∧ Drawn0 w w':=by
 have HR0:=a0_ hr0;have HC0:=a0_ hc0;clear hr0 hc0;have H : (impl_endOf.l0 k l0 a1 (wrap64 (a1 + 1))) = some r:=h;clear h;have H':=a0_ H;clear H;go_enter Try.func144,Try.ntmps144;go_wp2
 repeat (go_quiet (fail);try go_wp2)
 go_loopg [5] k (fun kq v5 w'=>∃ (x5_1 : Int),v5 = .int .i64 x5_1 ∧ Aside0 (impl_endOf.l0 kq l0 a1 x5_1 = some r) ∧ Aside0 (kq ≤ k) ∧ Drawn0 w w')
 case atStart=>exact ⟨(wrap64 (a1 + 1)),(by first | rfl | (simp;done) | (simp [*];done)),H',⟨Nat.le_refl _⟩,by repeat (first | exact Drawn0.refl _ | apply Drawn0.step)⟩
 case round =>
  clear H';(try clear c1);(try clear p2);obtain ⟨x5_1,rfl,HA,HK1,⟨m1,rfl⟩⟩:=hrel
  cases gk with
  | zero=>exact absurd HA.out (by simp [impl_endOf.l0])
  | succ k1 =>
   have H:=HA.out;clear HA;simp only [impl_endOf.l0] at H;by_cases c3 : x5_1 < (l0.length : Int)
   ·rw [if_pos c3] at H
    have c3b0 : decide (x5_1 < (l0.length : Int)) = true:=decide_eq_true c3;clear c3;by_cases c4 : 0 ≤ x5_1
    ·rw [if_pos c4] at H
     have c4b0 : decide (0 ≤ x5_1) = true:=decide_eq_true c4;clear c4;by_cases c5 : 0 ≤ a1
     ·rw [if_pos c5] at H
      have c5b0 : decide (0 ≤ a1) = true:=decide_eq_true c5;clear c5;by_cases c6 : a1 < (l0.length : Int)
      ·rw [if_pos c6] at H
       have c6b0 : decide (a1 < (l0.length : Int)) = true:=decide_eq_true c6;clear c6;by_cases c7 : ((rd_T75 l0 x5_1).f0) > ((rd_T75 l0 a1).f0)
       ·rw [if_pos c7] at H
        have c7b0 : decide (((rd_T75 l0 a1).f0) < ((rd_T75 l0 x5_1).f0)) = true:=decide_eq_true c7;clear c7;have H':=a0_ H;clear H;have p1 : 0 ≤ (x5_1 : Int):=od_;have q1 : x5_1 < (l0.length : Int):=od_;obtain ⟨ad1,e1,hx1_0,hx1_1,hx1_2,hx1_3⟩:=at_T75 HR0.out x5_1 p1 q1;cases e1;replace p1:=eq_true p1;replace q1:=eq_true q1;have p2 : 0 ≤ (a1 : Int):=od_;have q2 : a1 < (l0.length : Int):=od_;obtain ⟨ad2,e2,hx2_0,hx2_1,hx2_2,hx2_3⟩:=at_T75 HR0.out a1 p2 q2;obtain rfl : ad1 = ad2:=(by injection e2);replace p2:=eq_true p2;replace q2:=eq_true q2;go_wp2
        repeat (go_quiet (fail);try go_wp2)
        go_roundg k1
        case measure=>have:=HK1.out;omega
        case rel=>exact ⟨(wrap64 (x5_1 + 1)),(by first | rfl | (simp;done) | (simp [*];done)),H',⟨by have:=HK1.out;omega⟩,by repeat (first | exact Drawn0.refl _ | apply Drawn0.step)⟩
       ·rw [if_neg c7] at H
        have c7b0 : decide (((rd_T75 l0 a1).f0) < ((rd_T75 l0 x5_1).f0)) = false:=decide_eq_false c7;clear c7;obtain rfl:=Option.some.inj H;have p1 : 0 ≤ (x5_1 : Int):=od_;have q1 : x5_1 < (l0.length : Int):=od_;obtain ⟨ad1,e1,hx1_0,hx1_1,hx1_2,hx1_3⟩:=at_T75 HR0.out x5_1 p1 q1;cases e1;replace p1:=eq_true p1;replace q1:=eq_true q1;have p2 : 0 ≤ (a1 : Int):=od_;have q2 : a1 < (l0.length : Int):=od_;obtain ⟨ad2,e2,hx2_0,hx2_1,hx2_2,hx2_3⟩:=at_T75 HR0.out a1 p2 q2;obtain rfl : ad1 = ad2:=(by injection e2);replace p2:=eq_true p2;replace q2:=eq_true q2;go_wp2
        repeat (go_quiet (fail);try go_wp2)
        go_ret;exact ⟨by first | rfl | (simp;done) | (simp [*];done),by repeat (first | exact Drawn0.refl _ | apply Drawn0.step)⟩
      ·rw [if_neg c6] at H
       exact absurd H (by simp)
     ·rw [if_neg c5] at H
      exact absurd H (by simp)
    ·rw [if_neg c4] at H
     exact absurd H (by simp)
   ·rw [if_neg c3] at H
    have c3b0 : decide (x5_1 < (l0.length : Int)) = false:=decide_eq_false c3;clear c3;obtain rfl:=Option.some.inj H;go_wp2
    repeat (go_quiet (fail);try go_wp2)
    go_ret;exact ⟨by first | rfl | (simp;done) | (simp [*];done),by repeat (first | exact Drawn0.refl _ | apply Drawn0.step)⟩
theorem rd_ld_ (l : List S75) (j : Nat) : (rd_T75 l (j : Int)).f0 = ld l j:=rfl
theorem rd_lk_ (l : List S75) (j : Nat) : (rd_T75 l (j : Int)).f1 = lk l j:=rfl
theorem wrap_nat_ {i n : Nat} (h : i < n) (hn : n ≤ 1099511627776) : wrap64 ((i : Int) + 1) = ((i + 1 : Nat) : Int):=by
 rw [wrap_succ (i:=(i : Int)) (n:=n) (by omega) (by omega) (by omega)]
 rfl
theorem impl_endOf_ev (l : List S75) (i : Nat) (hi : i < l.length) (hl : l.length ≤ 1099511627776) : Ev (fun k=>impl_endOf.f k l (i : Int)) ((endN l i : Nat) : Int):=by
 have key : ∀ d j,j + d = endN l i → i < j → Ev (fun k=>impl_endOf.l0 k l (i : Int) (j : Int)) ((endN l i : Nat) : Int):=by
  intro d
  induction d with
  | zero =>
   intro j hj hij
   obtain rfl : j = endN l i:=by omega
   refine Ev.succ ?_
   simp only [impl_endOf.l0,rd_ld_]
   by_cases hn : endN l i < l.length
   ·have:=endN_at hi hn
    exact Ev.pos (by omega) (Ev.pos (by omega) (Ev.pos (by omega) (Ev.pos (by omega) (Ev.neg (by omega) (Ev.const rfl)))))
   ·exact Ev.neg (by omega) (Ev.const rfl)
  | succ d ih =>
   intro j hj hij
   have hle:=endN_le hi
   have hin:=endN_in (l:=l) (i:=i) (j:=j) hij (by omega)
   refine Ev.succ ?_
   simp only [impl_endOf.l0,rd_ld_]
   rw [wrap_nat_ (n:=l.length) (by omega) hl]
   exact Ev.pos (by omega) (Ev.pos (by omega) (Ev.pos (by omega) (Ev.pos (by omega) (Ev.pos (by omega) (ih (j + 1) (by omega) (by omega))))))
 have hg:=endN_gt l i
 unfold impl_endOf.f
 rw [wrap_nat_ hi hl]
 exact key (endN l i - (i + 1)) (i + 1) (by omega) (by omega)
end Go.Proofs.Ytacgehaipacehaa.P
namespace Go.Proofs.Ytacgehaipacehaa.P
open Go.RowKit Go.Proofs.YtacgehaipacehaaW.PrintWords Go.Proofs.YtacgehaipacehaaW.PrintLast Go.Proofs.YtacgehaipacehaaW.PrintMore
attribute [local go_sem] max2_int min2_int max_two min_two max_three min_three max_four min_four
set_option linter.unusedVariables false
set_option linter.unusedSimpArgs false
def impl_within.f (a0 : Int) (a1 : Int) (a2 : Int) : Option (Bool):=if a0 ≥ a1 then (some (decide (a0 ≤ a2))) else (some false)
set_option maxHeartbeats 8000000 in
set_option maxRecDepth 100000 in
theorem impl_within.calls (a0 : Int) (a1 : Int) (a2 : Int) (r : Bool) (w : World) (h : impl_within.f a0 a1 a2 = some r) :
  Calls Try.prog 75 #[.int .i64 a0,.int .i64 a1,.int .i64 a2] w fun e w'=>e = .returned (.bool r) ∧ Drawn0 w w':=by
 have H : (if a0 ≥ a1 then (some (decide (a0 ≤ a2))) else (some false)) = some r:=h;clear h;by_cases c4 : a0 ≥ a1
 ·rw [if_pos c4] at H
  have c4b0 : decide (a1 ≤ a0) = true:=decide_eq_true c4;clear c4;obtain rfl:=Option.some.inj H;go_enter Try.func75,Try.ntmps75;go_wp2;go_ret;exact ⟨by first | rfl | (simp;done) | (simp [*];done),by repeat (first | exact Drawn0.refl _ | apply Drawn0.step)⟩
 ·rw [if_neg c4] at H
  have c4b0 : decide (a1 ≤ a0) = false:=decide_eq_false c4;clear c4;obtain rfl:=Option.some.inj H;go_enter Try.func75,Try.ntmps75;go_wp2;go_ret;exact ⟨by first | rfl | (simp;done) | (simp [*];done),by repeat (first | exact Drawn0.refl _ | apply Drawn0.step)⟩
theorem impl_within_ev (a b c : Int) : impl_within.f a b c = some (decide (b ≤ a) && decide (a ≤ c)):=by
 unfold impl_within.f
 by_cases h : a ≥ b
 ·rw [if_pos h,decide_eq_true (show b ≤ a from h),Bool.true_and]
 ·rw [if_neg h,decide_eq_false (show ¬ b ≤ a from h),Bool.false_and]
end Go.Proofs.Ytacgehaipacehaa.P
namespace Go.Proofs.Ytacgehaipacehaa.P
open Go.RowKit Go.Proofs.YtacgehaipacehaaW.PrintWords Go.Proofs.YtacgehaipacehaaW.PrintLast Go.Proofs.YtacgehaipacehaaW.PrintMore
attribute [local go_sem] max2_int min2_int max_two min_two max_three min_three max_four min_four
set_option linter.unusedVariables false
set_option linter.unusedSimpArgs false
set_option maxHeartbeats 2000000 in
theorem slices_IndexFunc_Class.callsF (A : Option Addr) (c : Nat) (l : List S125) (g : Nat) (lb : Array Value) (p : S125 → Bool) (w : World) (eg : ∀ args w,(callFunc g args).run Try.prog w = .ok (.enter g args) w)
  (hr : Kd.C k125 w A l.length l) (hc : l.length ≤ c) (hp : ∀ x,x ∈ l → ∀ W,Below w.heap.size w W → Calls Try.prog g (#[.agg #[.string x.f0,.int .i64 x.f1]] ++ lb) W fun e w'=>e = .returned (.bool (p x)) ∧ Below W.heap.size W w') :
  Calls Try.prog 137 #[.slice A l.length c,.func (.func g) #[] lb] w fun e w'=>e = .returned (.int .i64 (idxP p l)) ∧ Below w.heap.size w w':=by
 have HR:=a0_ hr
 have HP:=a0_ hp
 have hmax : l.length ≤ 9223372036854775807:=hr.2.1
 clear hr hp hc
 go_enter Try.func137,Try.ntmps137
 go_wp2
 go_loopg [5,8] l.length (fun gg _ s8 wr=>∃ kk : Nat,kk ≤ l.length ∧ l.length - kk ≤ gg ∧ s8 = .int .i64 kk ∧ Aside0 (Below w.heap.size w wr) ∧ Aside0 (∀ j (hj : j < l.length),j < kk → p l[j] = false))
 case atStart=>exact ⟨0,Nat.zero_le _,by omega,rfl,⟨Below.refl _ w⟩,⟨fun j _ hj=>absurd hj (Nat.not_lt_zero _)⟩⟩
 case round =>
  obtain ⟨kk,hkk,hg,rfl,BW,HA⟩:=hrel
  by_cases hlt : kk < l.length
  ·have hltz : (kk : Int) < (l.length : Int):=by omega
   obtain ⟨ad,ea,hx0,hx1⟩:=at_T125 HR.out (kk : Int) (by omega) (by omega)
   cases ea
   have hrd : rd_T125 l (kk : Int) = l[kk]:=by simp [rd_T125,hlt]
   rw [hrd] at hx0 hx1
   rw [Int.toNat_natCast] at hx0 hx1
   replace hx0:=(BW.out.cell (World.block_lt_of_cell? w _ hx0)).trans hx0
   replace hx1:=(BW.out.cell (World.block_lt_of_cell? w _ hx1)).trans hx1
   have hcall:=HP.out l[kk] (List.getElem_mem hlt) wr BW.out
   clear hrd
   generalize hy : l[kk] = y at hx0 hx1 hcall
   have B:=a0_ hy
   clear hy
   cases hq : p y with
   | true =>
    rw [hq] at hcall
    go_wp2_with (go_at_fn g;refine hcall.mono ?_;rintro e w' ⟨rfl,hb'⟩)
    go_ret
    refine ⟨?_,below_step BW.out hb'⟩
    rw [idxP_hit p l kk hlt (by rw [B.out];exact hq) HA.out];rfl
   | false =>
    rw [hq] at hcall
    go_wp2_with (go_at_fn g;refine hcall.mono ?_;rintro e w' ⟨rfl,hb'⟩)
    go_roundg (l.length - (kk + 1))
    case measure=>omega
    case rel =>
     refine ⟨kk + 1,by omega,by omega,by go_num,⟨below_step BW.out hb'⟩,⟨fun j hj hjk=>?_⟩⟩
     by_cases e : j = kk
     ·subst e
      rw [B.out];exact hq
     ·exact HA.out j hj (by omega)
  ·have hltz : ¬ (kk : Int) < (l.length : Int):=by omega
   have : kk = l.length:=by omega
   subst this
   go_wp2
   go_ret
   refine ⟨?_,BW.out⟩
   rw [idxP_miss p l (fun j hj=>HA.out j hj hj)];rfl
end Go.Proofs.Ytacgehaipacehaa.P
namespace Go.Proofs.Ytacgehaipacehaa.P
open Go.RowKit Go.Proofs.YtacgehaipacehaaW.PrintWords Go.Proofs.YtacgehaipacehaaW.PrintLast Go.Proofs.YtacgehaipacehaaW.PrintMore
attribute [local go_sem] max2_int min2_int max_two min_two max_three min_three max_four min_four
set_option linter.unusedVariables false
set_option linter.unusedSimpArgs false
theorem impl_Tree_named_1.callsF (B : Nat) (nm : ByteArray) (x : S125) (w : World) (hB : w.heap[B]? = some (.cells #[.string nm] 9 (0,0))) :
  Calls Try.prog 138 #[.agg #[.string x.f0,.int .i64 x.f1],.pointer (some ⟨B,0,none⟩)] w fun e w'=>e = .returned (.bool (x.f0.toList == nm.toList)) ∧ Below w.heap.size w w':=by
 have hc : w.cell? ⟨B,0,none⟩ = some (.string nm):=(blk_cell hB 0).trans rfl
 have hlt : B < w.heap.size:=(Array.getElem?_eq_some_iff.1 hB).1
 have hne : B ≠ w.heap.size:=by omega
 clear hB
 go_enter Try.func138,Try.ntmps138
 go_wp2
 all_goals (go_ret;exact ⟨by simp_all,(Below.refl _ w).alloc (Nat.le_refl _) _⟩)
end Go.Proofs.Ytacgehaipacehaa.P
namespace Go.Proofs.Ytacgehaipacehaa.P
open Go.RowKit Go.Proofs.YtacgehaipacehaaW.PrintWords Go.Proofs.YtacgehaipacehaaW.PrintLast Go.Proofs.YtacgehaipacehaaW.PrintMore
attribute [local go_sem] max2_int min2_int max_two min_two max_three min_three max_four min_four
set_option linter.unusedVariables false
set_option linter.unusedSimpArgs false
def impl_Tree_named.f (l0_0 : List (S125)) (a1 : ByteArray) : Option Int:=some (idxP (fun x : S125=>x.f0.toList == a1.toList) l0_0)
set_option maxHeartbeats 2000000 in
theorem impl_Tree_named.calls (A0_0 : Option Addr) (c0_0 : Nat) (l0_0 : List (S125)) (a1 : ByteArray) (r : Int) (w : World) (hr0_0 : Kd.C k125 w A0_0 l0_0.length l0_0) (hc0_0 : l0_0.length ≤ c0_0) (h : impl_Tree_named.f l0_0 a1 = some r) :
  Calls Try.prog 92 #[.agg #[.slice A0_0 l0_0.length c0_0],.string a1] w fun e w'=>e = .returned (.int .i64 r) ∧ Below w.heap.size w w':=by
 obtain rfl:=Option.some.inj h;clear h;have hu31:=Try.underlying25;have eg : ∀ args w,(callFunc 138 args).run Try.prog w = .ok (.enter 138 args) w:=enters_of Try.func138 (by kernel_rfl) rfl
 have hcon:=fun (W : World) (hb : Below w.heap.size w W) (hB : W.heap[w.heap.size + 1]? = some (.cells #[.string a1] 9 (0,0)))=>slices_IndexFunc_Class.callsF A0_0 c0_0 l0_0 138 #[.pointer (some ⟨w.heap.size + 1,0,none⟩)] (fun x=>x.f0.toList == a1.toList) W eg (Kd.C_below hr0_0 hb) hc0_0 (fun x _ W' hW=>by
  have:=impl_Tree_named_1.callsF (w.heap.size + 1) a1 x W' (blk_keptB hB hW)
  simpa using this)
 clear hr0_0 hc0_0;generalize idxP (fun x : S125=>x.f0.toList == a1.toList) l0_0 = r at hcon ⊢;have HC:=a0_ hcon;clear hcon;go_enter Try.func92,Try.ntmps92;go_wp2_with (go_at_call 137;refine (HC.out _ ?hb ?hB).mono ?_;(case hb=>exact below2 w _ _);(case hB=>exact heap_new2 w _ _);rintro e w' ⟨rfl,hb'⟩);go_ret;exact ⟨rfl,(below2 w _ _).trans (hb'.mono (by simp;omega))⟩
end Go.Proofs.Ytacgehaipacehaa.P
namespace Go.Proofs.Ytacgehaipacehaa.P
open Go.RowKit Go.Proofs.YtacgehaipacehaaW.PrintWords Go.Proofs.YtacgehaipacehaaW.PrintLast Go.Proofs.YtacgehaipacehaaW.PrintMore
attribute [local go_sem] max2_int min2_int max_two min_two max_three min_three max_four min_four
set_option linter.unusedVariables false
set_option linter.unusedSimpArgs false
def impl_nameOk.l0 : Nat → ByteArray → Int → Int → Option (Bool)
 | 0,_,_,_=>none
 | k + 1,x0,x5,x6=>if x6 < x5 then (if 0 ≤ x6 then (if x6 < (x0.size : Int) then (if (bt x0 x6) < 97 then (some false) else (if (bt x0 x6) > 122 then (some false) else (impl_nameOk.l0 k x0 x5 (wrap64 (x6 + 1))))) else (none)) else (none)) else ((impl_within.f (x0.size : Int) 1 6).bind fun t1=>(some t1))
def impl_nameOk.f (k : Nat) (a0 : ByteArray) : Option (Bool):=impl_nameOk.l0 k a0 (a0.size : Int) 0
theorem impl_nameOk.mono_l : ∀ k,(∀ y0 y1 y2,LeO (impl_nameOk.l0 k y0 y1 y2) (impl_nameOk.l0 (k + 1) y0 y1 y2))
 | 0=>fun _ _ _ r h=>by simp [impl_nameOk.l0] at h
 | k + 1=>by
  have ih0:=impl_nameOk.mono_l k
  ·intro y0 y1 y2
   unfold impl_nameOk.l0
   repeat' first
   | (with_reducible exact ih0 _ _ _)
   | (with_reducible exact LeO.refl _)
   | (with_reducible exact LeO.none _)
   | (with_reducible refine LeO.ite ?_ ?_)
   | (with_reducible refine LeO.bind ?_ (fun _=>?_))
theorem impl_nameOk.mono : ∀ a0 k,LeO (impl_nameOk.f k a0) (impl_nameOk.f (k + 1) a0):=by
 intro a0 k
 have ih0:=impl_nameOk.mono_l k
 unfold impl_nameOk.f
 repeat' first
   | (with_reducible exact ih0 _ _ _)
   | (with_reducible exact LeO.refl _)
   | (with_reducible exact LeO.none _)
   | (with_reducible refine LeO.ite ?_ ?_)
   | (with_reducible refine LeO.bind ?_ (fun _=>?_))
set_option maxHeartbeats 8000000 in
set_option maxRecDepth 100000 in
theorem impl_nameOk.calls (k : Nat) (a0 : ByteArray) (r : Bool) (w : World) (h : impl_nameOk.f k a0 = some r) :
  Calls Try.prog 112 #[.string a0] w fun e w'=>e = .returned (.bool r) ∧ Drawn0 w w':=by
 have H : (impl_nameOk.l0 k a0 (a0.size : Int) 0) = some r:=h;clear h;have H':=a0_ H;clear H;go_enter Try.func112,Try.ntmps112;go_wp2;go_loopg [6] k (fun kq v6 w'=>∃ (x6_1 : Int),v6 = .int .i64 x6_1 ∧ Aside0 (impl_nameOk.l0 kq a0 (a0.size : Int) x6_1 = some r) ∧ Aside0 (kq ≤ k) ∧ Drawn0 w w')
 case atStart=>exact ⟨(0),(by first | rfl | (simp;done) | (simp [*];done)),H',⟨Nat.le_refl _⟩,by repeat (first | exact Drawn0.refl _ | apply Drawn0.step)⟩
 case round =>
  clear H';(try clear c1);obtain ⟨x6_1,rfl,HA,HK1,⟨m1,rfl⟩⟩:=hrel
  cases gk with
  | zero=>exact absurd HA.out (by simp [impl_nameOk.l0])
  | succ k1 =>
   have H:=HA.out;clear HA;simp only [impl_nameOk.l0] at H;by_cases c2 : x6_1 < (a0.size : Int)
   ·rw [if_pos c2] at H
    have c2b0 : decide (x6_1 < (a0.size : Int)) = true:=decide_eq_true c2;clear c2;by_cases c3 : 0 ≤ x6_1
    ·rw [if_pos c3] at H
     have c3b0 : decide (0 ≤ x6_1) = true:=decide_eq_true c3;clear c3;by_cases c4 : x6_1 < (a0.size : Int)
     ·rw [if_pos c4] at H
      have c4b0 : decide (x6_1 < (a0.size : Int)) = true:=decide_eq_true c4;clear c4;by_cases c6 : (bt a0 x6_1) < 97
      ·rw [if_pos c6] at H
       have c6b0 : decide ((bt a0 x6_1) < 97) = true:=decide_eq_true c6;clear c6;obtain rfl:=Option.some.inj H;have p5 : 0 ≤ (x6_1 : Int):=od_;have q5 : x6_1 < (a0.size : Int):=od_;have hx5:=bt_at a0 x6_1;replace p5:=eq_true p5;replace q5:=eq_true q5;go_wp2;go_ret;exact ⟨by first | rfl | (simp;done) | (simp [*];done),by repeat (first | exact Drawn0.refl _ | apply Drawn0.step)⟩
      ·rw [if_neg c6] at H
       have c6b0 : decide ((bt a0 x6_1) < 97) = false:=decide_eq_false c6;clear c6;by_cases c8 : (bt a0 x6_1) > 122
       ·rw [if_pos c8] at H
        have c8b0 : decide (122 < (bt a0 x6_1)) = true:=decide_eq_true c8;clear c8;obtain rfl:=Option.some.inj H;have p5 : 0 ≤ (x6_1 : Int):=od_;have q5 : x6_1 < (a0.size : Int):=od_;have hx5:=bt_at a0 x6_1;replace p5:=eq_true p5;replace q5:=eq_true q5;have p7 : 0 ≤ (x6_1 : Int):=od_;have q7 : x6_1 < (a0.size : Int):=od_;have hx7:=bt_at a0 x6_1;replace p7:=eq_true p7;replace q7:=eq_true q7;go_wp2;go_ret;exact ⟨by first | rfl | (simp;done) | (simp [*];done),by repeat (first | exact Drawn0.refl _ | apply Drawn0.step)⟩
       ·rw [if_neg c8] at H
        have c8b0 : decide (122 < (bt a0 x6_1)) = false:=decide_eq_false c8;clear c8;have H':=a0_ H;clear H;have p5 : 0 ≤ (x6_1 : Int):=od_;have q5 : x6_1 < (a0.size : Int):=od_;have hx5:=bt_at a0 x6_1;replace p5:=eq_true p5;replace q5:=eq_true q5;have p7 : 0 ≤ (x6_1 : Int):=od_;have q7 : x6_1 < (a0.size : Int):=od_;have hx7:=bt_at a0 x6_1;replace p7:=eq_true p7;replace q7:=eq_true q7;go_wp2;go_roundg k1
        case measure=>have:=HK1.out;omega
        case rel=>exact ⟨(wrap64 (x6_1 + 1)),(by first | rfl | (simp;done) | (simp [*];done)),H',⟨by have:=HK1.out;omega⟩,by repeat (first | exact Drawn0.refl _ | apply Drawn0.step)⟩
     ·rw [if_neg c4] at H
      exact absurd H (by simp)
    ·rw [if_neg c3] at H
     exact absurd H (by simp)
   ·rw [if_neg c2] at H
    have c2b0 : decide (x6_1 < (a0.size : Int)) = false:=decide_eq_false c2;clear c2;replace H:=Option.bind_eq_some_iff.mp H;obtain ⟨t1,A90,H⟩:=H;replace H : (some t1) = some r:=H;have A9:=a0_ A90;clear A90;obtain rfl:=Option.some.inj H;go_wp2_with (first | ((with_reducible refine gate_callee (f:=75) rfl ?_);refine goesL_ (some 22) rfl rfl Try.func75 (by kernel_rfl) rfl #[.int .i64 (a0.size : Int),.int .i64 1,.int .i64 6] rfl lm_ ?_;(with_reducible refine (impl_within.calls (a0.size : Int) 1 6 t1 _ A9.out).mono ?_);rintro e w' ⟨rfl,⟨nd,rfl⟩⟩;refine ⟨_,rfl,?_⟩));go_ret;exact ⟨by first | rfl | (simp;done) | (simp [*];done),by repeat (first | exact Drawn0.refl _ | apply Drawn0.step)⟩
theorem impl_nameOk_l0 (s : ByteArray) (hs : s.size ≤ 9223372036854775807) (d : Nat) : ∀ (k : Nat) (i : Nat),i ≤ s.size → s.size - i = d → d < k → impl_nameOk.l0 k s (s.size : Int) (i : Int) = some ((s.data.toList.drop i).all (fun c=>decide (97 ≤ c.toNat) && decide (c.toNat ≤ 122)) && (decide (1 ≤ s.size) && decide (s.size ≤ 6))):=by
 induction d with
 | zero =>
  intro k i hi hd hk
  obtain ⟨k,rfl⟩ : ∃ m,k = m + 1:=⟨k - 1,by omega⟩
  simp only [impl_nameOk.l0]
  rw [if_neg (by omega)]
  have : s.data.toList.drop i = []:=by
   apply List.drop_eq_nil_of_le
   have : s.data.toList.length = s.size:=toL_len s
   omega
  rw [this]
  simp only [impl_within.f,List.all_nil,Bool.true_and]
  by_cases h1 : 1 ≤ s.size
  ·rw [if_pos (show (s.size : Int) ≥ 1 by omega)]
   by_cases h2 : s.size ≤ 6
   ·simp [h1,h2];omega
   ·simp [h2];omega
  ·rw [if_neg (show ¬ (s.size : Int) ≥ 1 by omega)];simp [h1]
 | succ d ih =>
  intro k i hi hd hk
  obtain ⟨k,rfl⟩ : ∃ m,k = m + 1:=⟨k - 1,by omega⟩
  have hlt : i < s.size:=by omega
  have hl : s.data.toList.length = s.size:=toL_len s
  simp only [impl_nameOk.l0]
  rw [if_pos (show (i : Int) < (s.size : Int) by omega),if_pos (show (0 : Int) ≤ (i : Int) by omega),if_pos (show (i : Int) < (s.size : Int) by omega),bt_getElem s i hlt]
  have hd2 : s.data.toList.drop i = s[i] :: s.data.toList.drop (i + 1):=by
   rw [List.drop_eq_getElem_cons (by omega)]
   congr 1
  rw [hd2,List.all_cons]
  by_cases h1 : (s[i].toNat : Int) < 97
  ·rw [if_pos h1];have : ¬ 97 ≤ s[i].toNat:=by omega
   simp [this]
  ·rw [if_neg h1]
   by_cases h2 : (s[i].toNat : Int) > 122
   ·rw [if_pos h2];have : ¬ s[i].toNat ≤ 122:=by omega
    simp [this]
   ·rw [if_neg h2,wrap_succ (n:=s.size) (by omega) (by omega) (by omega)]
    have:=ih k (i + 1) (by omega) (by omega) (by omega)
    rw [show ((i : Int) + 1) = ((i + 1 : Nat) : Int) by omega,this]
    have a : 97 ≤ s[i].toNat:=by omega
    have b : s[i].toNat ≤ 122:=by omega
    simp [a,b]
theorem impl_nameOk_ev (s : ByteArray) (hs : s.size ≤ 9223372036854775807) : impl_nameOk.f (s.size + 1) s = some (okName s):=by
 unfold impl_nameOk.f okName
 have:=impl_nameOk_l0 s hs s.size (s.size + 1) 0 (by omega) (by omega) (by omega)
 simpa using this
end Go.Proofs.Ytacgehaipacehaa.P
namespace Go.Proofs.Ytacgehaipacehaa.P
open Go.RowKit Go.Proofs.YtacgehaipacehaaW.PrintWords Go.Proofs.YtacgehaipacehaaW.PrintLast Go.Proofs.YtacgehaipacehaaW.PrintMore
attribute [local go_sem] max2_int min2_int max_two min_two max_three min_three max_four min_four
set_option linter.unusedVariables false
set_option linter.unusedSimpArgs false
def impl_ValidTree.f (l0_0 : List (S125)) : Option Bool:=if smT l0_0 = true then some (vT l0_0) else none
set_option maxHeartbeats 4000000 in
set_option maxRecDepth 100000 in
theorem impl_ValidTree.calls (A0_0 : Option Addr) (c0_0 : Nat) (l0_0 : List (S125)) (r : Bool) (w : World) (hr0_0 : Kd.C k125 w A0_0 l0_0.length l0_0) (hc0_0 : l0_0.length ≤ c0_0) (h : impl_ValidTree.f l0_0 = some r) :
  Calls Try.prog 54 #[.agg #[.slice A0_0 l0_0.length c0_0]] w fun e w'=>e = .returned (.bool r) ∧ Below w.heap.size w w':=by
 have hu31:=Try.underlying25
 have hsm : smT l0_0 = true:=by
  apply Classical.byContradiction;intro hn;rw [impl_ValidTree.f,if_neg hn] at h;cases h
 rw [impl_ValidTree.f,if_pos hsm] at h;have HRr:=a0_ (Option.some.inj h);have HSM:=a0_ hsm;have HR:=a0_ hr0_0;have hmax : l0_0.length ≤ 9223372036854775807:=hr0_0.2.1;clear h hsm hr0_0;go_enter Try.func54,Try.ntmps54;go_wp2;go_loopg [8] l0_0.length (fun gg s8 wr=>∃ kk : Nat,kk ≤ l0_0.length ∧ l0_0.length - kk ≤ gg ∧ s8 = .int .i64 kk ∧ Aside0 (Below w.heap.size w wr) ∧ Aside0 (wr.heap[w.heap.size]? = some (.cells #[.slice A0_0 l0_0.length c0_0] 25 (0,0))) ∧ Aside0 (∀ j,j < kk → okCls l0_0 j (l0_0.getD j z125) = true))
 case atStart=>exact ⟨0,Nat.zero_le _,by omega,rfl,⟨below1 w _⟩,⟨heap_new1 w _⟩,⟨fun j hj=>absurd hj (Nat.not_lt_zero _)⟩⟩
 case round =>
  obtain ⟨kk,hkk,hg,rfl,BW,BK,HA⟩:=hrel;have hcz : wr.cell? ⟨w.heap.size,0,none⟩ = some (.slice A0_0 l0_0.length c0_0):=(blk_cell BK.out 0).trans rfl;by_cases hlt : kk < l0_0.length
  ·have hltz : (kk : Int) < (l0_0.length : Int):=by omega
   obtain ⟨ad,ea,hx0,hx1⟩:=at_T125 HR.out (kk : Int) (by omega) (by omega);cases ea
   have hrd : rd_T125 l0_0 (kk : Int) = l0_0[kk]:=by simp [rd_T125,hlt]
   rw [hrd] at hx0 hx1;rw [Int.toNat_natCast] at hx0 hx1;replace hx0:=(BW.out.cell (World.block_lt_of_cell? w _ hx0)).trans hx0;replace hx1:=(BW.out.cell (World.block_lt_of_cell? w _ hx1)).trans hx1;clear hrd;generalize hy : l0_0[kk] = y at hx0 hx1;have B:=a0_ hy;clear hy;go_upto_region 4 with (fail);have hW1:=a0_ (below_alloc BW.out (.cells #[.string y.f0,.int .i64 y.f1] 125));have hW2:=a0_ (blk_alloc BK.out (.cells #[.string y.f0,.int .i64 y.f1] 125));have hW3:=(blk_cell hW2.out 0).trans rfl;have hW4:=(blk_cell (heap_new1 wr (.cells #[.string y.f0,.int .i64 y.f1] 125)) 0).trans rfl;have hW5:=(blk_cell (heap_new1 wr (.cells #[.string y.f0,.int .i64 y.f1] 125)) 1).trans rfl;clear hcz hx0 hx1 BW BK;generalize wr.alloc (.cells #[.string y.f0,.int .i64 y.f1] 125) = W1 at hW1 hW2 hW3 hW4 hW5 ⊢;generalize wr.heap.size = gb at hW4 hW5 ⊢
   have hy1 : y.f0.size ≤ 9223372036854775806:=by rw [← B.out];exact smT_at HSM.out kk hlt
   have A1:=a0_ (impl_nameOk_ev y.f0 (by omega));have hcn0:=fun (W : World) (hW : Below w.heap.size w W)=>impl_Tree_named.calls (some ad) c0_0 l0_0 y.f0 (named l0_0 y.f0) W (Kd.C_below HR.out hW) hc0_0 rfl
   have hok : okCls l0_0 kk (l0_0.getD kk z125) = okCls l0_0 kk y:=by
    rw [← B.out];simp [List.getD,hlt]
   have hdef : okCls l0_0 kk y = (okName y.f0 && (decide (named l0_0 y.f0 = (kk : Int)) && (if kk = 0 then decide (y.f1 = -1) else decide (0 ≤ y.f1) && decide (y.f1 ≤ (kk : Int) - 1)))):=rfl;generalize named l0_0 y.f0 = nn at hcn0 hdef;have HCN:=a0_ hcn0;have HOK:=a0_ hok;have HDF:=a0_ hdef;clear hcn0 hok hdef hy1;go_cut [45] (fun v45 wc=>v45 = .bool (!okCls l0_0 kk y) ∧ Aside0 (Below w.heap.size w wc) ∧ Aside0 (wc.heap[w.heap.size]? = some (.cells #[.slice (some ad) l0_0.length c0_0] 25 (0,0))))
   case first =>
    have hw1 : IntKind.i64.wrap ((kk : Int) - 1) = (kk : Int) - 1:=by rw [IntKind.wrap_i64];omega
    have A2:=a0_ (show impl_within.f y.f1 0 ((kk : Int) - 1) = some (decide (0 ≤ y.f1) && decide (y.f1 ≤ (kk : Int) - 1)) by
     unfold impl_within.f;by_cases h0 : 0 ≤ y.f1
     ·rw [if_pos h0];simp [h0]
     ·rw [if_neg h0];simp [h0])
    cases hb1 : okName y.f0 with
    | false =>
     rw [hb1] at A1
     have BV : okCls l0_0 kk y = false:=by rw [HDF.out,hb1];rfl
     clear HDF HOK
     go_wp2_with (first
     | (go_at_call 112;(with_reducible refine (impl_nameOk.calls _ y.f0 _ _ A1.out).mono ?_);rintro e w' ⟨rfl,hd⟩;have hb:=drawn_below hd;replace hW3:=pw_cell_below hb hW3;replace hW4:=pw_cell_below hb hW4;replace hW5:=pw_cell_below hb hW5;replace hW1:=a0_ (below_step hW1.out hb);replace hW2:=a0_ (blk_keptB hW2.out hb);clear hb hd)
     | (go_at_call 92;(with_reducible refine (HCN.out _ hW1.out).mono ?_);rintro e w' ⟨rfl,hb⟩;replace hW3:=pw_cell_below hb hW3;replace hW4:=pw_cell_below hb hW4;replace hW5:=pw_cell_below hb hW5;replace hW1:=a0_ (below_step hW1.out hb);replace hW2:=a0_ (blk_keptB hW2.out hb);clear hb)
     | (go_at_call 75;(with_reducible refine (impl_within.calls y.f1 0 ((kk : Int) - 1) _ _ A2.out).mono ?_);rintro e w' ⟨rfl,hd⟩;have hb:=drawn_below hd;replace hW3:=pw_cell_below hb hW3;replace hW4:=pw_cell_below hb hW4;replace hW5:=pw_cell_below hb hW5;replace hW1:=a0_ (below_step hW1.out hb);replace hW2:=a0_ (blk_keptB hW2.out hb);clear hb hd))
     go_meet
     case rel=>exact ⟨by (rw [BV]);first | rfl | (simp [*];done),⟨hW1.out⟩,⟨hW2.out⟩⟩
    | true =>
     rw [hb1] at A1;by_cases hb2 : nn ≠ (kk : Int)
     ·have BV : okCls l0_0 kk y = false:=by rw [HDF.out,hb1,decide_eq_false hb2];rfl
      have d2 : (nn != (kk : Int)) = true:=bne_iff_ne.2 hb2;have d2' : (nn == (kk : Int)) = false:=beq_eq_false_iff_ne.2 hb2;clear HDF HOK hb2
      go_wp2_with (first
     | (go_at_call 112;(with_reducible refine (impl_nameOk.calls _ y.f0 _ _ A1.out).mono ?_);rintro e w' ⟨rfl,hd⟩;have hb:=drawn_below hd;replace hW3:=pw_cell_below hb hW3;replace hW4:=pw_cell_below hb hW4;replace hW5:=pw_cell_below hb hW5;replace hW1:=a0_ (below_step hW1.out hb);replace hW2:=a0_ (blk_keptB hW2.out hb);clear hb hd)
     | (go_at_call 92;(with_reducible refine (HCN.out _ hW1.out).mono ?_);rintro e w' ⟨rfl,hb⟩;replace hW3:=pw_cell_below hb hW3;replace hW4:=pw_cell_below hb hW4;replace hW5:=pw_cell_below hb hW5;replace hW1:=a0_ (below_step hW1.out hb);replace hW2:=a0_ (blk_keptB hW2.out hb);clear hb)
     | (go_at_call 75;(with_reducible refine (impl_within.calls y.f1 0 ((kk : Int) - 1) _ _ A2.out).mono ?_);rintro e w' ⟨rfl,hd⟩;have hb:=drawn_below hd;replace hW3:=pw_cell_below hb hW3;replace hW4:=pw_cell_below hb hW4;replace hW5:=pw_cell_below hb hW5;replace hW1:=a0_ (below_step hW1.out hb);replace hW2:=a0_ (blk_keptB hW2.out hb);clear hb hd))
      go_meet
      case rel=>exact ⟨by (rw [BV]);first | rfl | (simp [*];done),⟨hW1.out⟩,⟨hW2.out⟩⟩
     ·have hnm : nn = (kk : Int):=Classical.byContradiction fun hn=>hb2 hn
      have d2 : (nn != (kk : Int)) = false:=bne_eq_false_iff_eq.2 hnm;have d2' : (nn == (kk : Int)) = true:=beq_iff_eq.2 hnm
      have BV0 : okCls l0_0 kk y = (if kk = 0 then decide (y.f1 = -1) else decide (0 ≤ y.f1) && decide (y.f1 ≤ (kk : Int) - 1)):=by rw [HDF.out,hb1,decide_eq_true hnm];rfl
      clear HDF HOK hb2 hnm;by_cases hk0 : kk = 0
      ·have BV : okCls l0_0 kk y = decide (y.f1 = -1):=by rw [BV0,if_pos hk0]
       have e0 : ((kk : Int) == 0) = true:=beq_iff_eq.2 (by omega);have e1 : decide (0 < (kk : Int)) = false:=decide_eq_false (by omega);have e1n : decide (0 < kk) = false:=decide_eq_false (by omega);clear BV0;by_cases hp : y.f1 = -1
       ·have e2 : (y.f1 != -1) = false:=by rw [hp];rfl
        have e3 : (y.f1 == -1) = true:=by rw [hp];rfl
        rw [decide_eq_true hp] at BV;clear hp hk0
        go_wp2_with (first
     | (go_at_call 112;(with_reducible refine (impl_nameOk.calls _ y.f0 _ _ A1.out).mono ?_);rintro e w' ⟨rfl,hd⟩;have hb:=drawn_below hd;replace hW3:=pw_cell_below hb hW3;replace hW4:=pw_cell_below hb hW4;replace hW5:=pw_cell_below hb hW5;replace hW1:=a0_ (below_step hW1.out hb);replace hW2:=a0_ (blk_keptB hW2.out hb);clear hb hd)
     | (go_at_call 92;(with_reducible refine (HCN.out _ hW1.out).mono ?_);rintro e w' ⟨rfl,hb⟩;replace hW3:=pw_cell_below hb hW3;replace hW4:=pw_cell_below hb hW4;replace hW5:=pw_cell_below hb hW5;replace hW1:=a0_ (below_step hW1.out hb);replace hW2:=a0_ (blk_keptB hW2.out hb);clear hb)
     | (go_at_call 75;(with_reducible refine (impl_within.calls y.f1 0 ((kk : Int) - 1) _ _ A2.out).mono ?_);rintro e w' ⟨rfl,hd⟩;have hb:=drawn_below hd;replace hW3:=pw_cell_below hb hW3;replace hW4:=pw_cell_below hb hW4;replace hW5:=pw_cell_below hb hW5;replace hW1:=a0_ (below_step hW1.out hb);replace hW2:=a0_ (blk_keptB hW2.out hb);clear hb hd))
        go_meet
        case rel=>exact ⟨by (rw [BV]);first | rfl | (simp [*];done),⟨hW1.out⟩,⟨hW2.out⟩⟩
       ·have e2 : (y.f1 != -1) = true:=bne_iff_ne.2 hp
        have e3 : (y.f1 == -1) = false:=beq_eq_false_iff_ne.2 hp;rw [decide_eq_false hp] at BV;clear hp hk0
        go_wp2_with (first
     | (go_at_call 112;(with_reducible refine (impl_nameOk.calls _ y.f0 _ _ A1.out).mono ?_);rintro e w' ⟨rfl,hd⟩;have hb:=drawn_below hd;replace hW3:=pw_cell_below hb hW3;replace hW4:=pw_cell_below hb hW4;replace hW5:=pw_cell_below hb hW5;replace hW1:=a0_ (below_step hW1.out hb);replace hW2:=a0_ (blk_keptB hW2.out hb);clear hb hd)
     | (go_at_call 92;(with_reducible refine (HCN.out _ hW1.out).mono ?_);rintro e w' ⟨rfl,hb⟩;replace hW3:=pw_cell_below hb hW3;replace hW4:=pw_cell_below hb hW4;replace hW5:=pw_cell_below hb hW5;replace hW1:=a0_ (below_step hW1.out hb);replace hW2:=a0_ (blk_keptB hW2.out hb);clear hb)
     | (go_at_call 75;(with_reducible refine (impl_within.calls y.f1 0 ((kk : Int) - 1) _ _ A2.out).mono ?_);rintro e w' ⟨rfl,hd⟩;have hb:=drawn_below hd;replace hW3:=pw_cell_below hb hW3;replace hW4:=pw_cell_below hb hW4;replace hW5:=pw_cell_below hb hW5;replace hW1:=a0_ (below_step hW1.out hb);replace hW2:=a0_ (blk_keptB hW2.out hb);clear hb hd))
        go_meet
        case rel=>exact ⟨by (rw [BV]);first | rfl | (simp [*];done),⟨hW1.out⟩,⟨hW2.out⟩⟩
      ·have BV : okCls l0_0 kk y = (decide (0 ≤ y.f1) && decide (y.f1 ≤ (kk : Int) - 1)):=by rw [BV0,if_neg hk0]
       have e0 : ((kk : Int) == 0) = false:=beq_eq_false_iff_ne.2 (by omega);have e1 : decide (0 < (kk : Int)) = true:=decide_eq_true (by omega);have e1n : decide (0 < kk) = true:=decide_eq_true (by omega);rw [← BV] at A2;clear BV BV0 hk0
       cases BV : okCls l0_0 kk y with
       | false =>
        rw [BV] at A2
        go_wp2_with (first
     | (go_at_call 112;(with_reducible refine (impl_nameOk.calls _ y.f0 _ _ A1.out).mono ?_);rintro e w' ⟨rfl,hd⟩;have hb:=drawn_below hd;replace hW3:=pw_cell_below hb hW3;replace hW4:=pw_cell_below hb hW4;replace hW5:=pw_cell_below hb hW5;replace hW1:=a0_ (below_step hW1.out hb);replace hW2:=a0_ (blk_keptB hW2.out hb);clear hb hd)
     | (go_at_call 92;(with_reducible refine (HCN.out _ hW1.out).mono ?_);rintro e w' ⟨rfl,hb⟩;replace hW3:=pw_cell_below hb hW3;replace hW4:=pw_cell_below hb hW4;replace hW5:=pw_cell_below hb hW5;replace hW1:=a0_ (below_step hW1.out hb);replace hW2:=a0_ (blk_keptB hW2.out hb);clear hb)
     | (go_at_call 75;(with_reducible refine (impl_within.calls y.f1 0 ((kk : Int) - 1) _ _ A2.out).mono ?_);rintro e w' ⟨rfl,hd⟩;have hb:=drawn_below hd;replace hW3:=pw_cell_below hb hW3;replace hW4:=pw_cell_below hb hW4;replace hW5:=pw_cell_below hb hW5;replace hW1:=a0_ (below_step hW1.out hb);replace hW2:=a0_ (blk_keptB hW2.out hb);clear hb hd))
        go_meet
        case rel=>exact ⟨by (rw [BV]);first | rfl | (simp [*];done),⟨hW1.out⟩,⟨hW2.out⟩⟩
       | true =>
        rw [BV] at A2
        go_wp2_with (first
     | (go_at_call 112;(with_reducible refine (impl_nameOk.calls _ y.f0 _ _ A1.out).mono ?_);rintro e w' ⟨rfl,hd⟩;have hb:=drawn_below hd;replace hW3:=pw_cell_below hb hW3;replace hW4:=pw_cell_below hb hW4;replace hW5:=pw_cell_below hb hW5;replace hW1:=a0_ (below_step hW1.out hb);replace hW2:=a0_ (blk_keptB hW2.out hb);clear hb hd)
     | (go_at_call 92;(with_reducible refine (HCN.out _ hW1.out).mono ?_);rintro e w' ⟨rfl,hb⟩;replace hW3:=pw_cell_below hb hW3;replace hW4:=pw_cell_below hb hW4;replace hW5:=pw_cell_below hb hW5;replace hW1:=a0_ (below_step hW1.out hb);replace hW2:=a0_ (blk_keptB hW2.out hb);clear hb)
     | (go_at_call 75;(with_reducible refine (impl_within.calls y.f1 0 ((kk : Int) - 1) _ _ A2.out).mono ?_);rintro e w' ⟨rfl,hd⟩;have hb:=drawn_below hd;replace hW3:=pw_cell_below hb hW3;replace hW4:=pw_cell_below hb hW4;replace hW5:=pw_cell_below hb hW5;replace hW1:=a0_ (below_step hW1.out hb);replace hW2:=a0_ (blk_keptB hW2.out hb);clear hb hd))
        go_meet
        case rel=>exact ⟨by (rw [BV]);first | rfl | (simp [*];done),⟨hW1.out⟩,⟨hW2.out⟩⟩
   case rest =>
    obtain ⟨rfl,hW,hK⟩:=hcut;have hb:=HOK.out
    cases BV : okCls l0_0 kk y with
    | false =>
     go_wp2;go_ret;refine ⟨?_,hW.out⟩;rw [← HRr.out]
     have : vT l0_0 = false:=by
      cases hv : vT l0_0 with
      | false=>rfl
      | true=>have:=vT_at hv kk hlt;rw [HOK.out,BV] at this;cases this
     rw [this];rfl
    | true =>
     go_wp2;go_roundg (l0_0.length - (kk + 1))
     case measure=>omega
     case rel =>
      refine ⟨kk + 1,by omega,by omega,by go_num,⟨hW.out⟩,⟨hK.out⟩,⟨fun j hj=>?_⟩⟩;by_cases e : j = kk
      ·subst e;rw [HOK.out,BV]
      ·exact HA.out j (by omega)
  ·have hltz : ¬ (kk : Int) < (l0_0.length : Int):=by omega
   have : kk = l0_0.length:=by omega
   subst this
   have A3:=a0_ (show impl_within.f (l0_0.length : Int) 1 8 = some (vT l0_0) by
    have hall : (List.range l0_0.length).all (fun i=>okCls l0_0 i (l0_0.getD i z125)) = true:=by
     rw [List.all_eq_true];intro i hi;exact HA.out i (by simpa using hi)
    unfold impl_within.f vT;rw [hall];by_cases h1 : (1 : Int) ≤ l0_0.length
    ·rw [if_pos h1]
     have h1' : 1 ≤ l0_0.length:=by omega
     by_cases h8 : l0_0.length ≤ 8
     ·simp [h1',h8];omega
     ·simp [h8];omega
    ·rw [if_neg h1]
     have h1' : ¬ 1 ≤ l0_0.length:=by omega
     simp [h1'])
   rw [HRr.out] at A3;go_wp2_with (go_at_call 75;(with_reducible refine (impl_within.calls (l0_0.length : Int) 1 8 _ _ A3.out).mono ?_);rintro e w' ⟨rfl,⟨nd,rfl⟩⟩);go_ret;exact ⟨rfl,pw_below_drewN BW.out _⟩
end Go.Proofs.Ytacgehaipacehaa.P
namespace Go.Proofs.Ytacgehaipacehaa.P
open Go.RowKit Go.Proofs.YtacgehaipacehaaW.PrintWords Go.Proofs.YtacgehaipacehaaW.PrintLast Go.Proofs.YtacgehaipacehaaW.PrintMore
attribute [local go_sem] max2_int min2_int max_two min_two max_three min_three max_four min_four
set_option linter.unusedVariables false
set_option linter.unusedSimpArgs false
def impl_Tree_has.f (l0_0 : List (S125)) (a1 : Int) : Option (Bool):=(impl_within.f a1 0 (wrap64 ((l0_0.length : Int) - 1))).bind fun t2=>(some t2)
set_option maxHeartbeats 8000000 in
set_option maxRecDepth 100000 in
theorem impl_Tree_has.calls (A0_0 : Option Addr) (c0_0 : Nat) (l0_0 : List (S125)) (a1 : Int) (r : Bool) (w : World) (hr0_0 : Kd.C k125 w A0_0 l0_0.length l0_0) (hc0_0 : l0_0.length ≤ c0_0) (h : impl_Tree_has.f l0_0 a1 = some r) :
  Calls Try.prog 63 #[.agg #[.slice A0_0 l0_0.length c0_0],.int .i64 a1] w fun e w'=>e = .returned (.bool r) ∧ Below w.heap.size w w':=by
 have hu25:=Try.underlying25;have HR0_0:=a0_ hr0_0;have HC0_0:=a0_ hc0_0;clear hr0_0 hc0_0;have HB:=a0_ (Below.refl w.heap.size w);have H : ((impl_within.f a1 0 (wrap64 ((l0_0.length : Int) - 1))).bind fun t2=>(some t2)) = some r:=h;clear h;replace H:=Option.bind_eq_some_iff.mp H;obtain ⟨t2,A30,H⟩:=H;replace H : (some t2) = some r:=H;have A3:=a0_ A30;clear A30;obtain rfl:=Option.some.inj H;go_enter Try.func63,Try.ntmps63;go_wp2_with (first | ((with_reducible refine gate_dst (N:=2) rfl ?_);refine box_event ?hg (N:=2) ?hd (cs:=#[.slice A0_0 l0_0.length c0_0]) (t:=25) ?hr ?_;(case hd=>rfl);(case hg=>rfl);(case hr=>first | (go_simp;done) | (go_simp;rfl));intro gb1 hg w4 hbox hb;have BK1:=a0_ (hbox);have GW1:=a0_ ((by rw [hg];exact (below_size hbw_) : w.heap.size ≤ gb1));have GE1:=a0_ ((by rw [hg];exact (below_size hbw_) : w.heap.size ≤ gb1));replace HB:=a0_ (below_step hbw_ hb);clear hb hbox hg;have hcz5_0 : w4.cell? ⟨gb1,0,none⟩ = some (.slice A0_0 l0_0.length c0_0):=(blk_cell BK1.out 0).trans rfl;have hfz5_0:=blk_frozen BK1.out 0) | ((with_reducible refine gate_callee (f:=75) rfl ?_);refine goesL_ (some 10) rfl rfl Try.func75 (by kernel_rfl) rfl #[.int .i64 a1,.int .i64 0,.int .i64 (wrap64 ((l0_0.length : Int) - 1))] rfl lm_ ?_;(with_reducible refine (impl_within.calls a1 0 (wrap64 ((l0_0.length : Int) - 1)) t2 _ A3.out).mono ?_);rintro e w' ⟨rfl,⟨nd,rfl⟩⟩;refine ⟨_,rfl,?_⟩));go_ret;exact ⟨by first | rfl | (simp [errW_none,errW_some] <;> rfl) | (simp [*,errW_none,errW_some] <;> rfl),hbw_⟩
theorem impl_Tree_has_ev (t : List Cls) (a : Int) (hl : t.length ≤ 9223372036854775807) : impl_Tree_has.f t a = some (hasC t a):=by
 unfold impl_Tree_has.f impl_within.f hasC
 rw [wrap_pred (by omega) (by omega)]
 by_cases h0 : a ≥ 0
 ·rw [if_pos h0]
  have h0' : 0 ≤ a:=h0
  simp only [Option.bind_some,Option.some.injEq,decide_eq_true h0',Bool.true_and]
  by_cases h1 : a < (t.length : Int)
  ·rw [decide_eq_true h1,decide_eq_true (by omega)]
  ·rw [decide_eq_false h1,decide_eq_false (by omega)]
 ·rw [if_neg h0]
  have h0' : ¬ 0 ≤ a:=h0
  simp [decide_eq_false h0']
end Go.Proofs.Ytacgehaipacehaa.P
namespace Go.Proofs.Ytacgehaipacehaa.P
open Go.RowKit Go.Proofs.YtacgehaipacehaaW.PrintWords Go.Proofs.YtacgehaipacehaaW.PrintLast Go.Proofs.YtacgehaipacehaaW.PrintMore
attribute [local go_sem] max2_int min2_int max_two min_two max_three min_three max_four min_four
set_option linter.unusedVariables false
set_option linter.unusedSimpArgs false
def impl_codeOk.f (a0 : Int) : Option (Bool):=(impl_within.f a0 0 99).bind fun t1=>(some t1)
set_option maxHeartbeats 8000000 in
set_option maxRecDepth 100000 in
theorem impl_codeOk.calls (a0 : Int) (r : Bool) (w : World) (h : impl_codeOk.f a0 = some r) :
  Calls Try.prog 140 #[.int .i64 a0] w fun e w'=>e = .returned (.bool r) ∧ Drawn0 w w':=by
 have H : ((impl_within.f a0 0 99).bind fun t1=>(some t1)) = some r:=h;clear h;replace H:=Option.bind_eq_some_iff.mp H;obtain ⟨t1,A20,H⟩:=H;replace H : (some t1) = some r:=H;have A2:=a0_ A20;clear A20;obtain rfl:=Option.some.inj H;go_enter Try.func140,Try.ntmps140;go_wp2_with (first | ((with_reducible refine gate_callee (f:=75) rfl ?_);refine goesL_ (some 4) rfl rfl Try.func75 (by kernel_rfl) rfl #[.int .i64 a0,.int .i64 0,.int .i64 99] rfl lm_ ?_;(with_reducible refine (impl_within.calls a0 0 99 t1 _ A2.out).mono ?_);rintro e w' ⟨rfl,⟨nd,rfl⟩⟩;refine ⟨_,rfl,?_⟩));go_ret;exact ⟨by first | rfl | (simp;done) | (simp [*];done),by repeat (first | exact Drawn0.refl _ | apply Drawn0.step)⟩
theorem impl_codeOk_ev (a : Int) : impl_codeOk.f a = some (decide (0 ≤ a) && decide (a ≤ 99)):=by
 unfold impl_codeOk.f
 rw [impl_within_ev]
 rfl
end Go.Proofs.Ytacgehaipacehaa.P
