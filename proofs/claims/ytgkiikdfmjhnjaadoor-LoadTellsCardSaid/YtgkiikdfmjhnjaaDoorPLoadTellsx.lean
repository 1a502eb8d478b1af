-- laid by a program out of the translation and of templates; not trusted: Lean checks it
import Derived.Test.YtgkiikdfmjhnjaaDoorPLoadTellsx0
import Derived.Test.YtgkiikdfmjhnjaaDoorPLoadTellsx1
import Derived.Test.YtgkiikdfmjhnjaaDoorPLoadTellsx2
import Derived.Test.YtgkiikdfmjhnjaaDoorPLoadTellsx3
import Derived.Test.YtgkiikdfmjhnjaaDoorPLoadTellsx4
import Derived.Test.YtgkiikdfmjhnjaaDoorPLoadTellsx5
import Derived.Test.YtgkiikdfmjhnjaaDoorPLoadTellsx6
import Derived.Test.YtgkiikdfmjhnjaaDoorPLoadTellsx7
namespace Go.Proofs.YtgkiikdfmjhnjaaDoor.PLoadTells
open Go.RowKit Go.Proofs.YtgkiikdfmjhnjaaDoorW.PrintWords Go.Proofs.YtgkiikdfmjhnjaaDoorW.PrintLast Go.Proofs.YtgkiikdfmjhnjaaDoorW.PrintMore
attribute [local go_sem] str_leq str_gtr str_geq max2_int min2_int max_two min_two max_three min_three max_four min_four   -- for this text's walks alone
set_option linter.unusedVariables false
set_option linter.unusedSimpArgs false

end Go.Proofs.YtgkiikdfmjhnjaaDoor.PLoadTells
