-- printed by a program of this session (wip/xp/xprint.py) out of the translation; Lean checks it
import Derived.Test.YtjffakoifpldeaaPFnExactCrossDropx0
import Derived.Test.YtjffakoifpldeaaPFnExactCrossDropx1
import Derived.Test.YtjffakoifpldeaaPFnExactCrossDropx2
import Derived.Test.YtjffakoifpldeaaPFnExactCrossDropx3
import Derived.Test.YtjffakoifpldeaaPFnExactCrossDropx4
import Derived.Test.YtjffakoifpldeaaPFnExactCrossDropx5
import Derived.Test.YtjffakoifpldeaaPFnExactCrossDropx6
import Derived.Test.YtjffakoifpldeaaPFnExactCrossDropx7
import Derived.Test.YtjffakoifpldeaaPFnExactCrossDropx8
import Derived.Test.YtjffakoifpldeaaPFnExactCrossDropx9
import Derived.Test.YtjffakoifpldeaaPFnExactCrossDropx10
namespace Go.Proofs.Ytjffakoifpldeaa.PFnExactCrossDrop
open Go.RowKit Go.Proofs.YtjffakoifpldeaaW.PrintWords Go.Proofs.YtjffakoifpldeaaW.PrintLast Go.Proofs.YtjffakoifpldeaaW.PrintMore
attribute [local go_sem] max2_int min2_int max_two min_two max_three min_three max_four min_four   -- for this text's walks alone
set_option linter.unusedVariables false
set_option linter.unusedSimpArgs false

end Go.Proofs.Ytjffakoifpldeaa.PFnExactCrossDrop
