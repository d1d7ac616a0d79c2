-- printed by a program of this session (wip/xp/xprint.py) out of the translation; Lean checks it
import Derived.Test.YtjffakoifpldeaaPFnExactPartnerTakex0
import Derived.Test.YtjffakoifpldeaaPFnExactPartnerTakex1
import Derived.Test.YtjffakoifpldeaaPFnExactPartnerTakex2
import Derived.Test.YtjffakoifpldeaaPFnExactPartnerTakex3
import Derived.Test.YtjffakoifpldeaaPFnExactPartnerTakex4
import Derived.Test.YtjffakoifpldeaaPFnExactPartnerTakex5
import Derived.Test.YtjffakoifpldeaaPFnExactPartnerTakex6
import Derived.Test.YtjffakoifpldeaaPFnExactPartnerTakex7
import Derived.Test.YtjffakoifpldeaaPFnExactPartnerTakex8
import Derived.Test.YtjffakoifpldeaaPFnExactPartnerTakex9
import Derived.Test.YtjffakoifpldeaaPFnExactPartnerTakex10
import Derived.Test.YtjffakoifpldeaaPFnExactPartnerTakex11
namespace Go.Proofs.Ytjffakoifpldeaa.PFnExactPartnerTake
open Go.RowKit Go.Proofs.YtjffakoifpldeaaW.PrintWords Go.Proofs.YtjffakoifpldeaaW.PrintLast Go.Proofs.YtjffakoifpldeaaW.PrintMore
attribute [local go_sem] max2_int min2_int max_two min_two max_three min_three max_four min_four   -- for this text's walks alone
set_option linter.unusedVariables false
set_option linter.unusedSimpArgs false

end Go.Proofs.Ytjffakoifpldeaa.PFnExactPartnerTake
