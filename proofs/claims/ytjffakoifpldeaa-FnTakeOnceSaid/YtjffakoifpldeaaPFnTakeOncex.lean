-- printed by a program of this session (wip/xp/xprint.py) out of the translation; Lean checks it
import Derived.Test.YtjffakoifpldeaaPFnTakeOncex0
import Derived.Test.YtjffakoifpldeaaPFnTakeOncex1
import Derived.Test.YtjffakoifpldeaaPFnTakeOncex2
import Derived.Test.YtjffakoifpldeaaPFnTakeOncex3
import Derived.Test.YtjffakoifpldeaaPFnTakeOncex4
import Derived.Test.YtjffakoifpldeaaPFnTakeOncex5
import Derived.Test.YtjffakoifpldeaaPFnTakeOncex6
import Derived.Test.YtjffakoifpldeaaPFnTakeOncex7
import Derived.Test.YtjffakoifpldeaaPFnTakeOncex8
import Derived.Test.YtjffakoifpldeaaPFnTakeOncex9
import Derived.Test.YtjffakoifpldeaaPFnTakeOncex10
import Derived.Test.YtjffakoifpldeaaPFnTakeOncex11
import Derived.Test.YtjffakoifpldeaaPFnTakeOncex12
import Derived.Test.YtjffakoifpldeaaPFnTakeOncex13
import Derived.Test.YtjffakoifpldeaaPFnTakeOncex14
import Derived.Test.YtjffakoifpldeaaPFnTakeOncex15
import Derived.Test.YtjffakoifpldeaaPFnTakeOncex16
namespace Go.Proofs.Ytjffakoifpldeaa.PFnTakeOnce
open Go.RowKit Go.Proofs.YtjffakoifpldeaaW.PrintWords Go.Proofs.YtjffakoifpldeaaW.PrintLast Go.Proofs.YtjffakoifpldeaaW.PrintMore
attribute [local go_sem] max2_int min2_int max_two min_two max_three min_three max_four min_four   -- for this text's walks alone
set_option linter.unusedVariables false
set_option linter.unusedSimpArgs false

end Go.Proofs.Ytjffakoifpldeaa.PFnTakeOnce
