-- Written by xprint.py, a program of this session's, over the kit's print of the translation. Not trusted: Lean checks it.
import Derived.Test.YtjidhmklfkkckaaDoorXx0
import Derived.Test.YtjidhmklfkkckaaDoorXx1
import Derived.Test.YtjidhmklfkkckaaDoorXx2
import Derived.Test.YtjidhmklfkkckaaDoorXx3
import Derived.Test.YtjidhmklfkkckaaDoorXx4
import Derived.Test.YtjidhmklfkkckaaDoorXx5
import Derived.Test.YtjidhmklfkkckaaDoorXx6
import Derived.Test.YtjidhmklfkkckaaDoorXx7
import Derived.Test.YtjidhmklfkkckaaDoorXx8
namespace Go.Proofs.YtjidhmklfkkckaaDoor.X
open Go.RowKit Go.Proofs.YtjidhmklfkkckaaDoorW.PrintWords Go.Proofs.YtjidhmklfkkckaaDoorW.PrintLast Go.Proofs.YtjidhmklfkkckaaDoorW.PrintMore
attribute [local go_sem] max2_int min2_int max_two min_two max_three min_three max_four min_four   -- for this text's walks alone
set_option linter.unusedVariables false
set_option linter.unusedSimpArgs false

end Go.Proofs.YtjidhmklfkkckaaDoor.X
