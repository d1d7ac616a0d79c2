-- printed by a program of this session (wip/xp/xprint.py) out of the translation; Lean checks it
import Derived.Test.YtjffakoifpldeaaPFnCrossx0
import Derived.Test.YtjffakoifpldeaaPFnCrossx1
import Derived.Test.YtjffakoifpldeaaPFnCrossx2
import Derived.Test.YtjffakoifpldeaaPFnCrossx3
import Derived.Test.YtjffakoifpldeaaPFnCrossx4
import Derived.Test.YtjffakoifpldeaaPFnCrossx5
import Derived.Test.YtjffakoifpldeaaPFnCrossx6
import Derived.Test.YtjffakoifpldeaaPFnCrossx7
import Derived.Test.YtjffakoifpldeaaPFnCrossx8
import Derived.Test.YtjffakoifpldeaaPFnCrossx9
import Derived.Test.YtjffakoifpldeaaPFnCrossx10
import Derived.Test.YtjffakoifpldeaaPFnCrossx11
import Derived.Test.YtjffakoifpldeaaPFnCrossx12
import Derived.Test.YtjffakoifpldeaaPFnCrossx13
import Derived.Test.YtjffakoifpldeaaPFnCrossx14
import Derived.Test.YtjffakoifpldeaaPFnCrossx15
namespace Go.Proofs.Ytjffakoifpldeaa.PFnCross
open Go.RowKit Go.Proofs.YtjffakoifpldeaaW.PrintWords Go.Proofs.YtjffakoifpldeaaW.PrintLast Go.Proofs.YtjffakoifpldeaaW.PrintMore
attribute [local go_sem] max2_int min2_int max_two min_two max_three min_three max_four min_four   -- for this text's walks alone
set_option linter.unusedVariables false
set_option linter.unusedSimpArgs false

end Go.Proofs.Ytjffakoifpldeaa.PFnCross
