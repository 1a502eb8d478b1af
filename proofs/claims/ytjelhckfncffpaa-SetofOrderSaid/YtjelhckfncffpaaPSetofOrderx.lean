-- laid by a program out of the translation and of templates; not trusted: Lean checks it
import Derived.Test.YtjelhckfncffpaaPSetofOrderx0
import Derived.Test.YtjelhckfncffpaaPSetofOrderx1
import Derived.Test.YtjelhckfncffpaaPSetofOrderx2
import Derived.Test.YtjelhckfncffpaaPSetofOrderx3
import Derived.Test.YtjelhckfncffpaaPSetofOrderx4
namespace Go.Proofs.Ytjelhckfncffpaa.PSetofOrder
open Go.RowKit Go.Proofs.YtjelhckfncffpaaW.PrintWords Go.Proofs.YtjelhckfncffpaaW.PrintLast Go.Proofs.YtjelhckfncffpaaW.PrintMore
attribute [local go_sem high] c_add c_eql c_neq
attribute [local go_sem] str_leq str_gtr str_geq max2_int min2_int max_two min_two max_three min_three max_four min_four   -- for this text's walks alone
set_option linter.unusedVariables false
set_option linter.unusedSimpArgs false

end Go.Proofs.Ytjelhckfncffpaa.PSetofOrder
