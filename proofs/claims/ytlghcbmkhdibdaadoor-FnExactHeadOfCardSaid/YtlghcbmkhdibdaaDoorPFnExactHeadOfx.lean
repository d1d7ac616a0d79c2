-- printed by a program of this session (wip/xp/xprint.py) out of the translation; Lean checks it
import Derived.Test.YtlghcbmkhdibdaaDoorPFnExactHeadOfx0
import Derived.Test.YtlghcbmkhdibdaaDoorPFnExactHeadOfx1
import Derived.Test.YtlghcbmkhdibdaaDoorPFnExactHeadOfx2
import Derived.Test.YtlghcbmkhdibdaaDoorPFnExactHeadOfx3
import Derived.Test.YtlghcbmkhdibdaaDoorPFnExactHeadOfx4
namespace Go.Proofs.YtlghcbmkhdibdaaDoor.PFnExactHeadOf
open Go.RowKit Go.Proofs.YtlghcbmkhdibdaaDoorW.PrintWords Go.Proofs.YtlghcbmkhdibdaaDoorW.PrintLast Go.Proofs.YtlghcbmkhdibdaaDoorW.PrintMore
attribute [local go_sem] max2_int min2_int max_two min_two max_three min_three max_four min_four   -- for this text's walks alone
set_option linter.unusedVariables false
set_option linter.unusedSimpArgs false

end Go.Proofs.YtlghcbmkhdibdaaDoor.PFnExactHeadOf
