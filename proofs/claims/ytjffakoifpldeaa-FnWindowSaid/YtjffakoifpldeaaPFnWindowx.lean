-- printed by a program of this session (wip/xp/xprint.py) out of the translation; Lean checks it
import Derived.Test.YtjffakoifpldeaaPFnWindowx0
import Derived.Test.YtjffakoifpldeaaPFnWindowx1
import Derived.Test.YtjffakoifpldeaaPFnWindowx2
import Derived.Test.YtjffakoifpldeaaPFnWindowx3
import Derived.Test.YtjffakoifpldeaaPFnWindowx4
import Derived.Test.YtjffakoifpldeaaPFnWindowx5
import Derived.Test.YtjffakoifpldeaaPFnWindowx6
import Derived.Test.YtjffakoifpldeaaPFnWindowx7
import Derived.Test.YtjffakoifpldeaaPFnWindowx8
import Derived.Test.YtjffakoifpldeaaPFnWindowx9
import Derived.Test.YtjffakoifpldeaaPFnWindowx10
import Derived.Test.YtjffakoifpldeaaPFnWindowx11
import Derived.Test.YtjffakoifpldeaaPFnWindowx12
import Derived.Test.YtjffakoifpldeaaPFnWindowx13
import Derived.Test.YtjffakoifpldeaaPFnWindowx14
namespace Go.Proofs.Ytjffakoifpldeaa.PFnWindow
open Go.RowKit Go.Proofs.YtjffakoifpldeaaW.PrintWords Go.Proofs.YtjffakoifpldeaaW.PrintLast Go.Proofs.YtjffakoifpldeaaW.PrintMore
attribute [local go_sem] max2_int min2_int max_two min_two max_three min_three max_four min_four   -- for this text's walks alone
set_option linter.unusedVariables false
set_option linter.unusedSimpArgs false

end Go.Proofs.Ytjffakoifpldeaa.PFnWindow
