-- printed by a program of this session (wip/xp/xprint.py) out of the translation; Lean checks it
import Derived.Test.YtjffakoifpldeaaPFnExactPartnerAskx0
import Derived.Test.YtjffakoifpldeaaPFnExactPartnerAskx1
import Derived.Test.YtjffakoifpldeaaPFnExactPartnerAskx2
import Derived.Test.YtjffakoifpldeaaPFnExactPartnerAskx3
import Derived.Test.YtjffakoifpldeaaPFnExactPartnerAskx4
import Derived.Test.YtjffakoifpldeaaPFnExactPartnerAskx5
import Derived.Test.YtjffakoifpldeaaPFnExactPartnerAskx6
namespace Go.Proofs.Ytjffakoifpldeaa.PFnExactPartnerAsk
open Go.RowKit Go.Proofs.YtjffakoifpldeaaW.PrintWords Go.Proofs.YtjffakoifpldeaaW.PrintLast Go.Proofs.YtjffakoifpldeaaW.PrintMore
attribute [local go_sem] max2_int min2_int max_two min_two max_three min_three max_four min_four   -- for this text's walks alone
set_option linter.unusedVariables false
set_option linter.unusedSimpArgs false

end Go.Proofs.Ytjffakoifpldeaa.PFnExactPartnerAsk
