-- laid by a program out of the translation and of templates; not trusted: Lean checks it
import Derived.Test.YtjkhfognncadbaaDoorPOidBackx0
import Derived.Test.YtjkhfognncadbaaDoorPOidBackx1
import Derived.Test.YtjkhfognncadbaaDoorPOidBackx2
import Derived.Test.YtjkhfognncadbaaDoorPOidBackx3
import Derived.Test.YtjkhfognncadbaaDoorPOidBackx4
import Derived.Test.YtjkhfognncadbaaDoorPOidBackx5
import Derived.Test.YtjkhfognncadbaaDoorPOidBackx6
namespace Go.Proofs.YtjkhfognncadbaaDoor.POidBack
open Go.RowKit Go.Proofs.YtjkhfognncadbaaDoorW.PrintWords Go.Proofs.YtjkhfognncadbaaDoorW.PrintLast Go.Proofs.YtjkhfognncadbaaDoorW.PrintMore
attribute [local go_sem high] c_add c_eql c_neq
attribute [local go_sem] str_leq str_gtr str_geq max2_int min2_int max_two min_two max_three min_three max_four min_four   -- for this text's walks alone
set_option linter.unusedVariables false
set_option linter.unusedSimpArgs false

end Go.Proofs.YtjkhfognncadbaaDoor.POidBack
