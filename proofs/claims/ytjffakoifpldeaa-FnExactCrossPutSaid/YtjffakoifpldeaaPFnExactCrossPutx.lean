-- printed by a program of this session (wip/xp/xprint.py) out of the translation; Lean checks it
import Derived.Test.YtjffakoifpldeaaPFnExactCrossPutx0
import Derived.Test.YtjffakoifpldeaaPFnExactCrossPutx1
import Derived.Test.YtjffakoifpldeaaPFnExactCrossPutx2
import Derived.Test.YtjffakoifpldeaaPFnExactCrossPutx3
import Derived.Test.YtjffakoifpldeaaPFnExactCrossPutx4
import Derived.Test.YtjffakoifpldeaaPFnExactCrossPutx5
import Derived.Test.YtjffakoifpldeaaPFnExactCrossPutx6
import Derived.Test.YtjffakoifpldeaaPFnExactCrossPutx7
import Derived.Test.YtjffakoifpldeaaPFnExactCrossPutx8
import Derived.Test.YtjffakoifpldeaaPFnExactCrossPutx9
import Derived.Test.YtjffakoifpldeaaPFnExactCrossPutx10
import Derived.Test.YtjffakoifpldeaaPFnExactCrossPutx11
import Derived.Test.YtjffakoifpldeaaPFnExactCrossPutx12
namespace Go.Proofs.Ytjffakoifpldeaa.PFnExactCrossPut
open Go.RowKit Go.Proofs.YtjffakoifpldeaaW.PrintWords Go.Proofs.YtjffakoifpldeaaW.PrintLast Go.Proofs.YtjffakoifpldeaaW.PrintMore
attribute [local go_sem] max2_int min2_int max_two min_two max_three min_three max_four min_four   -- for this text's walks alone
set_option linter.unusedVariables false
set_option linter.unusedSimpArgs false

end Go.Proofs.Ytjffakoifpldeaa.PFnExactCrossPut
