-- laid by a program out of the translation and of templates; not trusted: Lean checks it
import Derived.Test.YtlocmcemfjfhiaaPOctetsXorx0
import Derived.Test.YtlocmcemfjfhiaaPOctetsXorx1
import Derived.Test.YtlocmcemfjfhiaaPOctetsXorx2
namespace Go.Proofs.Ytlocmcemfjfhiaa.POctetsXor
open Go.RowKit Go.Proofs.YtlocmcemfjfhiaaW.PrintWords Go.Proofs.YtlocmcemfjfhiaaW.PrintLast Go.Proofs.YtlocmcemfjfhiaaW.PrintMore
attribute [local go_sem] max2_int min2_int max_two min_two max_three min_three max_four min_four   -- for this text's walks alone
set_option linter.unusedVariables false
set_option linter.unusedSimpArgs false

end Go.Proofs.Ytlocmcemfjfhiaa.POctetsXor
