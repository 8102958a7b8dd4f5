-- Written by a program of this session (wip/gen/lprint.py over the kit's print.py) out of the translation. Lean checks it.
import Derived.Test.YtljmgihgbjohnaaDoorP0
import Derived.Test.YtljmgihgbjohnaaDoorP1
import Derived.Test.YtljmgihgbjohnaaDoorP2
import Derived.Test.YtljmgihgbjohnaaDoorP3
import Derived.Test.YtljmgihgbjohnaaDoorP4
import Derived.Test.YtljmgihgbjohnaaDoorP5
namespace Go.Proofs.YtljmgihgbjohnaaDoor.P
open Go.Proofs.YtljmgihgbjohnaaDoor.E Go.Proofs.YtljmgihgbjohnaaDoorV
open Go.RowKit Go.Proofs.YtljmgihgbjohnaaDoorW.PrintWords Go.Proofs.YtljmgihgbjohnaaDoorW.PrintLast Go.Proofs.YtljmgihgbjohnaaDoorW.PrintMore
attribute [local go_sem] max2_int min2_int max_two min_two max_three min_three max_four min_four   -- for this text's walks alone
set_option linter.unusedVariables false
set_option linter.unusedSimpArgs false

end Go.Proofs.YtljmgihgbjohnaaDoor.P
