-- printed by a program of this session (wip/xp/xprint.py) out of the translation; Lean checks it
import Derived.Test.YtjffakoifpldeaaPFnExactCrossTheirsx0
import Derived.Test.YtjffakoifpldeaaPFnExactCrossTheirsx1
import Derived.Test.YtjffakoifpldeaaPFnExactCrossTheirsx2
import Derived.Test.YtjffakoifpldeaaPFnExactCrossTheirsx3
import Derived.Test.YtjffakoifpldeaaPFnExactCrossTheirsx4
import Derived.Test.YtjffakoifpldeaaPFnExactCrossTheirsx5
import Derived.Test.YtjffakoifpldeaaPFnExactCrossTheirsx6
import Derived.Test.YtjffakoifpldeaaPFnExactCrossTheirsx7
namespace Go.Proofs.Ytjffakoifpldeaa.PFnExactCrossTheirs
open Go.RowKit Go.Proofs.YtjffakoifpldeaaW.PrintWords Go.Proofs.YtjffakoifpldeaaW.PrintLast Go.Proofs.YtjffakoifpldeaaW.PrintMore
attribute [local go_sem] max2_int min2_int max_two min_two max_three min_three max_four min_four   -- for this text's walks alone
set_option linter.unusedVariables false
set_option linter.unusedSimpArgs false

end Go.Proofs.Ytjffakoifpldeaa.PFnExactCrossTheirs
