-- laid by a program out of the translation and of templates; not trusted: Lean checks it
import Derived.Test.YtleimmhpcomapaaGreatDoorPKindTellsx0
import Derived.Test.YtleimmhpcomapaaGreatDoorPKindTellsx1
import Derived.Test.YtleimmhpcomapaaGreatDoorPKindTellsx2
import Derived.Test.YtleimmhpcomapaaGreatDoorPKindTellsx3
import Derived.Test.YtleimmhpcomapaaGreatDoorPKindTellsx4
import Derived.Test.YtleimmhpcomapaaGreatDoorPKindTellsx5
import Derived.Test.YtleimmhpcomapaaGreatDoorPKindTellsx6
import Derived.Test.YtleimmhpcomapaaGreatDoorPKindTellsx7
import Derived.Test.YtleimmhpcomapaaGreatDoorPKindTellsx8
import Derived.Test.YtleimmhpcomapaaGreatDoorPKindTellsx9
import Derived.Test.YtleimmhpcomapaaGreatDoorPKindTellsx10
namespace Go.Proofs.YtleimmhpcomapaaGreatDoor.PKindTells
open Go.RowKit Go.Proofs.YtleimmhpcomapaaGreatDoorW.PrintWords Go.Proofs.YtleimmhpcomapaaGreatDoorW.PrintLast Go.Proofs.YtleimmhpcomapaaGreatDoorW.PrintMore
attribute [local go_sem high] c_add c_eql c_neq
attribute [local go_sem] str_leq str_gtr str_geq max2_int min2_int max_two min_two max_three min_three max_four min_four   -- for this text's walks alone
set_option linter.unusedVariables false
set_option linter.unusedSimpArgs false

end Go.Proofs.YtleimmhpcomapaaGreatDoor.PKindTells
