/- Printed by a program of this session's own: what functions of the program compute, and that the machine computes it. -/
import Derived.Test.YtimphnniplbgeaaXx0
import Derived.Test.YtimphnniplbgeaaXx1
import Derived.Test.YtimphnniplbgeaaXx2
import Derived.Test.YtimphnniplbgeaaXx3
namespace Go.Proofs.Ytimphnniplbgeaa.X
open Go.RowKit Go.Proofs.YtimphnniplbgeaaW.PrintWords Go.Proofs.YtimphnniplbgeaaW.PrintLast Go.Proofs.YtimphnniplbgeaaW.PrintMore
attribute [local go_sem] max2_int min2_int max_two min_two max_three min_three max_four min_four   -- for this text's walks alone
set_option linter.unusedVariables false
set_option linter.unusedSimpArgs false

end Go.Proofs.Ytimphnniplbgeaa.X
