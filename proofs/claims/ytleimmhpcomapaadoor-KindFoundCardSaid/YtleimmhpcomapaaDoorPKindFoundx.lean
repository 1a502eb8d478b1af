-- laid by a program out of the translation and of templates; not trusted: Lean checks it
import Derived.Test.YtleimmhpcomapaaDoorPKindFoundx0
import Derived.Test.YtleimmhpcomapaaDoorPKindFoundx1
import Derived.Test.YtleimmhpcomapaaDoorPKindFoundx2
import Derived.Test.YtleimmhpcomapaaDoorPKindFoundx3
import Derived.Test.YtleimmhpcomapaaDoorPKindFoundx4
import Derived.Test.YtleimmhpcomapaaDoorPKindFoundx5
namespace Go.Proofs.YtleimmhpcomapaaDoor.PKindFound
open Go.RowKit Go.Proofs.YtleimmhpcomapaaDoorW.PrintWords Go.Proofs.YtleimmhpcomapaaDoorW.PrintLast Go.Proofs.YtleimmhpcomapaaDoorW.PrintMore
attribute [local go_sem high] c_add c_eql c_neq
attribute [local go_sem] str_leq str_gtr str_geq max2_int min2_int max_two min_two max_three min_three max_four min_four   -- for this text's walks alone
set_option linter.unusedVariables false
set_option linter.unusedSimpArgs false

end Go.Proofs.YtleimmhpcomapaaDoor.PKindFound
