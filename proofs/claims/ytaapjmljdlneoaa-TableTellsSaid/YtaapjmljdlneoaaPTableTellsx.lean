-- laid by a program out of the translation and of templates; not trusted: Lean checks it
import Derived.Test.YtaapjmljdlneoaaPTableTellsx0
import Derived.Test.YtaapjmljdlneoaaPTableTellsx1
import Derived.Test.YtaapjmljdlneoaaPTableTellsx2
import Derived.Test.YtaapjmljdlneoaaPTableTellsx3
import Derived.Test.YtaapjmljdlneoaaPTableTellsx4
import Derived.Test.YtaapjmljdlneoaaPTableTellsx5
namespace Go.Proofs.Ytaapjmljdlneoaa.PTableTells
open Go.RowKit Go.Proofs.YtaapjmljdlneoaaW.PrintWords Go.Proofs.YtaapjmljdlneoaaW.PrintLast Go.Proofs.YtaapjmljdlneoaaW.PrintMore
attribute [local go_sem] str_leq str_gtr str_geq max2_int min2_int max_two min_two max_three min_three max_four min_four   -- for this text's walks alone
set_option linter.unusedVariables false
set_option linter.unusedSimpArgs false

end Go.Proofs.Ytaapjmljdlneoaa.PTableTells
