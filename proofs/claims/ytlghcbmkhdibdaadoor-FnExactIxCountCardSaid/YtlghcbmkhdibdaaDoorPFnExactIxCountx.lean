-- printed by a program of this session (wip/xp/xprint.py) out of the translation; Lean checks it
import Derived.Test.YtlghcbmkhdibdaaDoorPFnExactIxCountx0
import Derived.Test.YtlghcbmkhdibdaaDoorPFnExactIxCountx1
import Derived.Test.YtlghcbmkhdibdaaDoorPFnExactIxCountx2
import Derived.Test.YtlghcbmkhdibdaaDoorPFnExactIxCountx3
import Derived.Test.YtlghcbmkhdibdaaDoorPFnExactIxCountx4
namespace Go.Proofs.YtlghcbmkhdibdaaDoor.PFnExactIxCount
open Go.RowKit Go.Proofs.YtlghcbmkhdibdaaDoorW.PrintWords Go.Proofs.YtlghcbmkhdibdaaDoorW.PrintLast Go.Proofs.YtlghcbmkhdibdaaDoorW.PrintMore
attribute [local go_sem] max2_int min2_int max_two min_two max_three min_three max_four min_four   -- for this text's walks alone
set_option linter.unusedVariables false
set_option linter.unusedSimpArgs false

end Go.Proofs.YtlghcbmkhdibdaaDoor.PFnExactIxCount
