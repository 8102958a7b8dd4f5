-- Written by a program of this session (wip/gen/lprint.py over the kit's print.py) out of the translation. Lean checks it.
import Derived.Test.YtlbgphddhjnlcaaGreatDoorP0
import Derived.Test.YtlbgphddhjnlcaaGreatDoorP1
import Derived.Test.YtlbgphddhjnlcaaGreatDoorP2
import Derived.Test.YtlbgphddhjnlcaaGreatDoorP3
import Derived.Test.YtlbgphddhjnlcaaGreatDoorP4
import Derived.Test.YtlbgphddhjnlcaaGreatDoorP5
import Derived.Test.YtlbgphddhjnlcaaGreatDoorP6
import Derived.Test.YtlbgphddhjnlcaaGreatDoorP7
import Derived.Test.YtlbgphddhjnlcaaGreatDoorP8
import Derived.Test.YtlbgphddhjnlcaaGreatDoorP9
import Derived.Test.YtlbgphddhjnlcaaGreatDoorP10
namespace Go.Proofs.YtlbgphddhjnlcaaGreatDoor.P
open Go.Proofs.YtlbgphddhjnlcaaGreatDoor.E Go.Proofs.YtlbgphddhjnlcaaGreatDoorV
open Go.RowKit Go.Proofs.YtlbgphddhjnlcaaGreatDoorW.PrintWords Go.Proofs.YtlbgphddhjnlcaaGreatDoorW.PrintLast Go.Proofs.YtlbgphddhjnlcaaGreatDoorW.PrintMore
attribute [local go_sem] max2_int min2_int max_two min_two max_three min_three max_four min_four   -- for this text's walks alone
set_option linter.unusedVariables false
set_option linter.unusedSimpArgs false

end Go.Proofs.YtlbgphddhjnlcaaGreatDoor.P
