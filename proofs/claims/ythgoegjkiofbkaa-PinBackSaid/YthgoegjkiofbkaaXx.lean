/- Printed by a program of this session's own: what functions of the program compute, and that the machine computes it. -/
import Derived.Test.YthgoegjkiofbkaaXx0
import Derived.Test.YthgoegjkiofbkaaXx1
import Derived.Test.YthgoegjkiofbkaaXx2
import Derived.Test.YthgoegjkiofbkaaXx3
import Derived.Test.YthgoegjkiofbkaaXx4
import Derived.Test.YthgoegjkiofbkaaXx5
import Derived.Test.YthgoegjkiofbkaaXx6
import Derived.Test.YthgoegjkiofbkaaXx7
import Derived.Test.YthgoegjkiofbkaaXx8
import Derived.Test.YthgoegjkiofbkaaXx9
import Derived.Test.YthgoegjkiofbkaaXx10
import Derived.Test.YthgoegjkiofbkaaXx11
import Derived.Test.YthgoegjkiofbkaaXx12
import Derived.Test.YthgoegjkiofbkaaXx13
namespace Go.Proofs.Ythgoegjkiofbkaa.X
open Go.RowKit Go.Proofs.YthgoegjkiofbkaaW.PrintWords Go.Proofs.YthgoegjkiofbkaaW.PrintLast Go.Proofs.YthgoegjkiofbkaaW.PrintMore
attribute [local go_sem] max2_int min2_int max_two min_two max_three min_three max_four min_four   -- for this text's walks alone
set_option linter.unusedVariables false
set_option linter.unusedSimpArgs false

end Go.Proofs.Ythgoegjkiofbkaa.X
