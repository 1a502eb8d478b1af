-- laid by a program out of the translation and of templates; not trusted: Lean checks it
import Derived.Test.YtcbcojbhbhaimaaDoorPTreeMakesx0
import Derived.Test.YtcbcojbhbhaimaaDoorPTreeMakesx1
import Derived.Test.YtcbcojbhbhaimaaDoorPTreeMakesx2
import Derived.Test.YtcbcojbhbhaimaaDoorPTreeMakesx3
import Derived.Test.YtcbcojbhbhaimaaDoorPTreeMakesx4
import Derived.Test.YtcbcojbhbhaimaaDoorPTreeMakesx5
import Derived.Test.YtcbcojbhbhaimaaDoorPTreeMakesx6
import Derived.Test.YtcbcojbhbhaimaaDoorPTreeMakesx7
import Derived.Test.YtcbcojbhbhaimaaDoorPTreeMakesx8
import Derived.Test.YtcbcojbhbhaimaaDoorPTreeMakesx9
import Derived.Test.YtcbcojbhbhaimaaDoorPTreeMakesx10
import Derived.Test.YtcbcojbhbhaimaaDoorPTreeMakesx11
import Derived.Test.YtcbcojbhbhaimaaDoorPTreeMakesx12
import Derived.Test.YtcbcojbhbhaimaaDoorPTreeMakesx13
import Derived.Test.YtcbcojbhbhaimaaDoorPTreeMakesx14
import Derived.Test.YtcbcojbhbhaimaaDoorPTreeMakesx15
import Derived.Test.YtcbcojbhbhaimaaDoorPTreeMakesx16
import Derived.Test.YtcbcojbhbhaimaaDoorPTreeMakesx17
import Derived.Test.YtcbcojbhbhaimaaDoorPTreeMakesx18
import Derived.Test.YtcbcojbhbhaimaaDoorPTreeMakesx19
namespace Go.Proofs.YtcbcojbhbhaimaaDoor.PTreeMakes
open Go.RowKit Go.Proofs.YtcbcojbhbhaimaaDoorW.PrintWords Go.Proofs.YtcbcojbhbhaimaaDoorW.PrintLast Go.Proofs.YtcbcojbhbhaimaaDoorW.PrintMore
attribute [local go_sem high] c_add c_eql c_neq
attribute [local go_sem] f_store_c f_store_f f_add f_toint f_fold_eq f_fold_ne f_fold_lt f_fold_gt f_fold_le f_fold_ge
attribute [local go_sem] str_leq str_gtr str_geq max2_int min2_int max_two min_two max_three min_three max_four min_four   -- for this text's walks alone
set_option linter.unusedVariables false
set_option linter.unusedSimpArgs false

end Go.Proofs.YtcbcojbhbhaimaaDoor.PTreeMakes
