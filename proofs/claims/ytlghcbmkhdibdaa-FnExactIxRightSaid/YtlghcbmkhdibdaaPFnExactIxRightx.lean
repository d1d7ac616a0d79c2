-- printed by a program of this session (wip/xp/xprint.py) out of the translation; Lean checks it
import Derived.Test.YtlghcbmkhdibdaaPFnExactIxRightx0
import Derived.Test.YtlghcbmkhdibdaaPFnExactIxRightx1
import Derived.Test.YtlghcbmkhdibdaaPFnExactIxRightx2
import Derived.Test.YtlghcbmkhdibdaaPFnExactIxRightx3
import Derived.Test.YtlghcbmkhdibdaaPFnExactIxRightx4
import Derived.Test.YtlghcbmkhdibdaaPFnExactIxRightx5
import Derived.Test.YtlghcbmkhdibdaaPFnExactIxRightx6
import Derived.Test.YtlghcbmkhdibdaaPFnExactIxRightx7
import Derived.Test.YtlghcbmkhdibdaaPFnExactIxRightx8
import Derived.Test.YtlghcbmkhdibdaaPFnExactIxRightx9
import Derived.Test.YtlghcbmkhdibdaaPFnExactIxRightx10
import Derived.Test.YtlghcbmkhdibdaaPFnExactIxRightx11
import Derived.Test.YtlghcbmkhdibdaaPFnExactIxRightx12
import Derived.Test.YtlghcbmkhdibdaaPFnExactIxRightx13
namespace Go.Proofs.Ytlghcbmkhdibdaa.PFnExactIxRight
open Go.RowKit Go.Proofs.YtlghcbmkhdibdaaW.PrintWords Go.Proofs.YtlghcbmkhdibdaaW.PrintLast Go.Proofs.YtlghcbmkhdibdaaW.PrintMore
attribute [local go_sem] max2_int min2_int max_two min_two max_three min_three max_four min_four   -- for this text's walks alone
set_option linter.unusedVariables false
set_option linter.unusedSimpArgs false

end Go.Proofs.Ytlghcbmkhdibdaa.PFnExactIxRight
