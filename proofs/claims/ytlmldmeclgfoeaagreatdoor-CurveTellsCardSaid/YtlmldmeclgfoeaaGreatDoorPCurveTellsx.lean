-- laid by a program out of the translation and of templates; not trusted: Lean checks it
import Derived.Test.YtlmldmeclgfoeaaGreatDoorPCurveTellsx0
import Derived.Test.YtlmldmeclgfoeaaGreatDoorPCurveTellsx1
import Derived.Test.YtlmldmeclgfoeaaGreatDoorPCurveTellsx2
import Derived.Test.YtlmldmeclgfoeaaGreatDoorPCurveTellsx3
import Derived.Test.YtlmldmeclgfoeaaGreatDoorPCurveTellsx4
import Derived.Test.YtlmldmeclgfoeaaGreatDoorPCurveTellsx5
import Derived.Test.YtlmldmeclgfoeaaGreatDoorPCurveTellsx6
import Derived.Test.YtlmldmeclgfoeaaGreatDoorPCurveTellsx7
namespace Go.Proofs.YtlmldmeclgfoeaaGreatDoor.PCurveTells
open Go.RowKit Go.Proofs.YtlmldmeclgfoeaaGreatDoorW.PrintWords Go.Proofs.YtlmldmeclgfoeaaGreatDoorW.PrintLast Go.Proofs.YtlmldmeclgfoeaaGreatDoorW.PrintMore
attribute [local go_sem high] c_add c_eql c_neq
attribute [local go_sem] str_leq str_gtr str_geq max2_int min2_int max_two min_two max_three min_three max_four min_four   -- for this text's walks alone
set_option linter.unusedVariables false
set_option linter.unusedSimpArgs false

end Go.Proofs.YtlmldmeclgfoeaaGreatDoor.PCurveTells
