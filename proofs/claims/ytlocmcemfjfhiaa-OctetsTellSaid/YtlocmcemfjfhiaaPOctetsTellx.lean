-- laid by a program out of the translation and of templates; not trusted: Lean checks it
import Derived.Test.YtlocmcemfjfhiaaPOctetsTellx0
import Derived.Test.YtlocmcemfjfhiaaPOctetsTellx1
import Derived.Test.YtlocmcemfjfhiaaPOctetsTellx2
namespace Go.Proofs.Ytlocmcemfjfhiaa.POctetsTell
open Go.RowKit Go.Proofs.YtlocmcemfjfhiaaW.PrintWords Go.Proofs.YtlocmcemfjfhiaaW.PrintLast Go.Proofs.YtlocmcemfjfhiaaW.PrintMore
attribute [local go_sem] max2_int min2_int max_two min_two max_three min_three max_four min_four   -- for this text's walks alone
set_option linter.unusedVariables false
set_option linter.unusedSimpArgs false

end Go.Proofs.Ytlocmcemfjfhiaa.POctetsTell
