-- laid by a program out of the translation and of templates; not trusted: Lean checks it
import Derived.Test.YtlocmcemfjfhiaaDoorPWholeBackx0
import Derived.Test.YtlocmcemfjfhiaaDoorPWholeBackx1
import Derived.Test.YtlocmcemfjfhiaaDoorPWholeBackx2
namespace Go.Proofs.YtlocmcemfjfhiaaDoor.PWholeBack
open Go.RowKit Go.Proofs.YtlocmcemfjfhiaaDoorW.PrintWords Go.Proofs.YtlocmcemfjfhiaaDoorW.PrintLast Go.Proofs.YtlocmcemfjfhiaaDoorW.PrintMore
attribute [local go_sem] max2_int min2_int max_two min_two max_three min_three max_four min_four   -- for this text's walks alone
set_option linter.unusedVariables false
set_option linter.unusedSimpArgs false

end Go.Proofs.YtlocmcemfjfhiaaDoor.PWholeBack
