-- laid by a program out of the translation and of templates; not trusted: Lean checks it
import Derived.Test.YtjelhckfncffpaaPSetofTellsx0
import Derived.Test.YtjelhckfncffpaaPSetofTellsx1
import Derived.Test.YtjelhckfncffpaaPSetofTellsx2
import Derived.Test.YtjelhckfncffpaaPSetofTellsx3
import Derived.Test.YtjelhckfncffpaaPSetofTellsx4
import Derived.Test.YtjelhckfncffpaaPSetofTellsx5
namespace Go.Proofs.Ytjelhckfncffpaa.PSetofTells
open Go.RowKit Go.Proofs.YtjelhckfncffpaaW.PrintWords Go.Proofs.YtjelhckfncffpaaW.PrintLast Go.Proofs.YtjelhckfncffpaaW.PrintMore
attribute [local go_sem high] c_add c_eql c_neq
attribute [local go_sem] str_leq str_gtr str_geq max2_int min2_int max_two min_two max_three min_three max_four min_four   -- for this text's walks alone
set_option linter.unusedVariables false
set_option linter.unusedSimpArgs false

end Go.Proofs.Ytjelhckfncffpaa.PSetofTells
