-- printed by a program of this session (wip/xp/xprint.py) out of the translation; Lean checks it
import Derived.Test.YtjffakoifpldeaaPFnExactPartnerRunx0
import Derived.Test.YtjffakoifpldeaaPFnExactPartnerRunx1
import Derived.Test.YtjffakoifpldeaaPFnExactPartnerRunx2
import Derived.Test.YtjffakoifpldeaaPFnExactPartnerRunx3
import Derived.Test.YtjffakoifpldeaaPFnExactPartnerRunx4
import Derived.Test.YtjffakoifpldeaaPFnExactPartnerRunx5
import Derived.Test.YtjffakoifpldeaaPFnExactPartnerRunx6
import Derived.Test.YtjffakoifpldeaaPFnExactPartnerRunx7
import Derived.Test.YtjffakoifpldeaaPFnExactPartnerRunx8
import Derived.Test.YtjffakoifpldeaaPFnExactPartnerRunx9
import Derived.Test.YtjffakoifpldeaaPFnExactPartnerRunx10
import Derived.Test.YtjffakoifpldeaaPFnExactPartnerRunx11
import Derived.Test.YtjffakoifpldeaaPFnExactPartnerRunx12
namespace Go.Proofs.Ytjffakoifpldeaa.PFnExactPartnerRun
open Go.RowKit Go.Proofs.YtjffakoifpldeaaW.PrintWords Go.Proofs.YtjffakoifpldeaaW.PrintLast Go.Proofs.YtjffakoifpldeaaW.PrintMore
attribute [local go_sem] max2_int min2_int max_two min_two max_three min_three max_four min_four   -- for this text's walks alone
set_option linter.unusedVariables false
set_option linter.unusedSimpArgs false

end Go.Proofs.Ytjffakoifpldeaa.PFnExactPartnerRun
