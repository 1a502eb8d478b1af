-- laid by a program out of the translation and of templates; not trusted: Lean checks it
import Derived.Test.YtcbcojbhbhaimaaDoorPTreeAgainx0
import Derived.Test.YtcbcojbhbhaimaaDoorPTreeAgainx1
import Derived.Test.YtcbcojbhbhaimaaDoorPTreeAgainx2
import Derived.Test.YtcbcojbhbhaimaaDoorPTreeAgainx3
import Derived.Test.YtcbcojbhbhaimaaDoorPTreeAgainx4
import Derived.Test.YtcbcojbhbhaimaaDoorPTreeAgainx5
import Derived.Test.YtcbcojbhbhaimaaDoorPTreeAgainx6
import Derived.Test.YtcbcojbhbhaimaaDoorPTreeAgainx7
import Derived.Test.YtcbcojbhbhaimaaDoorPTreeAgainx8
import Derived.Test.YtcbcojbhbhaimaaDoorPTreeAgainx9
import Derived.Test.YtcbcojbhbhaimaaDoorPTreeAgainx10
import Derived.Test.YtcbcojbhbhaimaaDoorPTreeAgainx11
import Derived.Test.YtcbcojbhbhaimaaDoorPTreeAgainx12
import Derived.Test.YtcbcojbhbhaimaaDoorPTreeAgainx13
import Derived.Test.YtcbcojbhbhaimaaDoorPTreeAgainx14
import Derived.Test.YtcbcojbhbhaimaaDoorPTreeAgainx15
import Derived.Test.YtcbcojbhbhaimaaDoorPTreeAgainx16
import Derived.Test.YtcbcojbhbhaimaaDoorPTreeAgainx17
import Derived.Test.YtcbcojbhbhaimaaDoorPTreeAgainx18
namespace Go.Proofs.YtcbcojbhbhaimaaDoor.PTreeAgain
open Go.RowKit Go.Proofs.YtcbcojbhbhaimaaDoorW.PrintWords Go.Proofs.YtcbcojbhbhaimaaDoorW.PrintLast Go.Proofs.YtcbcojbhbhaimaaDoorW.PrintMore
attribute [local go_sem high] c_add c_eql c_neq
attribute [local go_sem] f_store_c f_store_f f_add f_toint f_fold_eq f_fold_ne f_fold_lt f_fold_gt f_fold_le f_fold_ge
attribute [local go_sem] str_leq str_gtr str_geq max2_int min2_int max_two min_two max_three min_three max_four min_four   -- for this text's walks alone
set_option linter.unusedVariables false
set_option linter.unusedSimpArgs false

end Go.Proofs.YtcbcojbhbhaimaaDoor.PTreeAgain
