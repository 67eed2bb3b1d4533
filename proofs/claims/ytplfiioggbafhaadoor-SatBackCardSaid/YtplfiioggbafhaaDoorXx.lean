/- Printed by a program of this session's own: what functions of the program compute, and that the machine computes it. -/
import Derived.Test.YtplfiioggbafhaaDoorXx0
import Derived.Test.YtplfiioggbafhaaDoorXx1
import Derived.Test.YtplfiioggbafhaaDoorXx2
import Derived.Test.YtplfiioggbafhaaDoorXx3
import Derived.Test.YtplfiioggbafhaaDoorXx4
import Derived.Test.YtplfiioggbafhaaDoorXx5
import Derived.Test.YtplfiioggbafhaaDoorXx6
import Derived.Test.YtplfiioggbafhaaDoorXx7
import Derived.Test.YtplfiioggbafhaaDoorXx8
import Derived.Test.YtplfiioggbafhaaDoorXx9
import Derived.Test.YtplfiioggbafhaaDoorXx10
import Derived.Test.YtplfiioggbafhaaDoorXx11
import Derived.Test.YtplfiioggbafhaaDoorXx12
import Derived.Test.YtplfiioggbafhaaDoorXx13
namespace Go.Proofs.YtplfiioggbafhaaDoor.X
open Go.RowKit Go.Proofs.YtplfiioggbafhaaDoorW.PrintWords Go.Proofs.YtplfiioggbafhaaDoorW.PrintLast Go.Proofs.YtplfiioggbafhaaDoorW.PrintMore
attribute [local go_sem] max2_int min2_int max_two min_two max_three min_three max_four min_four   -- for this text's walks alone
set_option linter.unusedVariables false
set_option linter.unusedSimpArgs false

end Go.Proofs.YtplfiioggbafhaaDoor.X
