-- printed by a program of this session (wip/xp/xprint.py) out of the translation; Lean checks it
import Derived.Test.YtlghcbmkhdibdaaPFnExactParcelSamex0
import Derived.Test.YtlghcbmkhdibdaaPFnExactParcelSamex1
import Derived.Test.YtlghcbmkhdibdaaPFnExactParcelSamex2
import Derived.Test.YtlghcbmkhdibdaaPFnExactParcelSamex3
import Derived.Test.YtlghcbmkhdibdaaPFnExactParcelSamex4
import Derived.Test.YtlghcbmkhdibdaaPFnExactParcelSamex5
import Derived.Test.YtlghcbmkhdibdaaPFnExactParcelSamex6
import Derived.Test.YtlghcbmkhdibdaaPFnExactParcelSamex7
import Derived.Test.YtlghcbmkhdibdaaPFnExactParcelSamex8
import Derived.Test.YtlghcbmkhdibdaaPFnExactParcelSamex9
namespace Go.Proofs.Ytlghcbmkhdibdaa.PFnExactParcelSame
open Go.RowKit Go.Proofs.YtlghcbmkhdibdaaW.PrintWords Go.Proofs.YtlghcbmkhdibdaaW.PrintLast Go.Proofs.YtlghcbmkhdibdaaW.PrintMore
attribute [local go_sem] max2_int min2_int max_two min_two max_three min_three max_four min_four   -- for this text's walks alone
set_option linter.unusedVariables false
set_option linter.unusedSimpArgs false

end Go.Proofs.Ytlghcbmkhdibdaa.PFnExactParcelSame
