-- laid by a program out of the translation and of templates; not trusted: Lean checks it
import Derived.Test.YtlocmcemfjfhiaaDoorPStrsRightx0
import Derived.Test.YtlocmcemfjfhiaaDoorPStrsRightx1
import Derived.Test.YtlocmcemfjfhiaaDoorPStrsRightx2
import Derived.Test.YtlocmcemfjfhiaaDoorPStrsRightx3
import Derived.Test.YtlocmcemfjfhiaaDoorPStrsRightx4
import Derived.Test.YtlocmcemfjfhiaaDoorPStrsRightx5
import Derived.Test.YtlocmcemfjfhiaaDoorPStrsRightx6
import Derived.Test.YtlocmcemfjfhiaaDoorPStrsRightx7
import Derived.Test.YtlocmcemfjfhiaaDoorPStrsRightx8
import Derived.Test.YtlocmcemfjfhiaaDoorPStrsRightx9
namespace Go.Proofs.YtlocmcemfjfhiaaDoor.PStrsRight
open Go.RowKit Go.Proofs.YtlocmcemfjfhiaaDoorW.PrintWords Go.Proofs.YtlocmcemfjfhiaaDoorW.PrintLast Go.Proofs.YtlocmcemfjfhiaaDoorW.PrintMore
attribute [local go_sem] str_leq str_gtr str_geq max2_int min2_int max_two min_two max_three min_three max_four min_four   -- for this text's walks alone
set_option linter.unusedVariables false
set_option linter.unusedSimpArgs false

end Go.Proofs.YtlocmcemfjfhiaaDoor.PStrsRight
