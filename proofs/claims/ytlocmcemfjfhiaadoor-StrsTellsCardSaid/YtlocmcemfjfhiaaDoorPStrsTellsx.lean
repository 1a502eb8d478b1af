-- laid by a program out of the translation and of templates; not trusted: Lean checks it
import Derived.Test.YtlocmcemfjfhiaaDoorPStrsTellsx0
import Derived.Test.YtlocmcemfjfhiaaDoorPStrsTellsx1
import Derived.Test.YtlocmcemfjfhiaaDoorPStrsTellsx2
import Derived.Test.YtlocmcemfjfhiaaDoorPStrsTellsx3
import Derived.Test.YtlocmcemfjfhiaaDoorPStrsTellsx4
import Derived.Test.YtlocmcemfjfhiaaDoorPStrsTellsx5
import Derived.Test.YtlocmcemfjfhiaaDoorPStrsTellsx6
import Derived.Test.YtlocmcemfjfhiaaDoorPStrsTellsx7
namespace Go.Proofs.YtlocmcemfjfhiaaDoor.PStrsTells
open Go.RowKit Go.Proofs.YtlocmcemfjfhiaaDoorW.PrintWords Go.Proofs.YtlocmcemfjfhiaaDoorW.PrintLast Go.Proofs.YtlocmcemfjfhiaaDoorW.PrintMore
attribute [local go_sem] str_leq str_gtr str_geq max2_int min2_int max_two min_two max_three min_three max_four min_four   -- for this text's walks alone
set_option linter.unusedVariables false
set_option linter.unusedSimpArgs false

end Go.Proofs.YtlocmcemfjfhiaaDoor.PStrsTells
