-- laid by a program out of the translation and of templates; not trusted: Lean checks it
import Derived.Test.YtjoageaencpfaaaDoorPUsageTellsx0
import Derived.Test.YtjoageaencpfaaaDoorPUsageTellsx1
import Derived.Test.YtjoageaencpfaaaDoorPUsageTellsx2
import Derived.Test.YtjoageaencpfaaaDoorPUsageTellsx3
import Derived.Test.YtjoageaencpfaaaDoorPUsageTellsx4
import Derived.Test.YtjoageaencpfaaaDoorPUsageTellsx5
import Derived.Test.YtjoageaencpfaaaDoorPUsageTellsx6
import Derived.Test.YtjoageaencpfaaaDoorPUsageTellsx7
import Derived.Test.YtjoageaencpfaaaDoorPUsageTellsx8
namespace Go.Proofs.YtjoageaencpfaaaDoor.PUsageTells
open Go.RowKit Go.Proofs.YtjoageaencpfaaaDoorW.PrintWords Go.Proofs.YtjoageaencpfaaaDoorW.PrintLast Go.Proofs.YtjoageaencpfaaaDoorW.PrintMore
attribute [local go_sem high] c_add c_eql c_neq
attribute [local go_sem] str_leq str_gtr str_geq max2_int min2_int max_two min_two max_three min_three max_four min_four   -- for this text's walks alone
set_option linter.unusedVariables false
set_option linter.unusedSimpArgs false

end Go.Proofs.YtjoageaencpfaaaDoor.PUsageTells
