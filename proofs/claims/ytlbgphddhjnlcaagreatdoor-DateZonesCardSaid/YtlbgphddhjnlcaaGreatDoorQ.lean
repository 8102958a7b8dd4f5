-- Written by a program of this session (wip/gen/lprint.py over the kit's print.py) out of the translation. Lean checks it.
import Derived.Test.YtlbgphddhjnlcaaGreatDoorQ0
import Derived.Test.YtlbgphddhjnlcaaGreatDoorQ1
namespace Go.Proofs.YtlbgphddhjnlcaaGreatDoor.Q
open Go.Proofs.YtlbgphddhjnlcaaGreatDoor.E Go.Proofs.YtlbgphddhjnlcaaGreatDoorV
open Go.Proofs.YtlbgphddhjnlcaaGreatDoor.P
open Go.RowKit Go.Proofs.YtlbgphddhjnlcaaGreatDoorW.PrintWords Go.Proofs.YtlbgphddhjnlcaaGreatDoorW.PrintLast Go.Proofs.YtlbgphddhjnlcaaGreatDoorW.PrintMore
attribute [local go_sem] max2_int min2_int max_two min_two max_three min_three max_four min_four   -- for this text's walks alone
set_option linter.unusedVariables false
set_option linter.unusedSimpArgs false

end Go.Proofs.YtlbgphddhjnlcaaGreatDoor.Q
