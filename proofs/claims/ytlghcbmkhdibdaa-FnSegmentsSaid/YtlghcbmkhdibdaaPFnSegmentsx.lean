-- printed by a program of this session (wip/xp/xprint.py) out of the translation; Lean checks it
import Derived.Test.YtlghcbmkhdibdaaPFnSegmentsx0
import Derived.Test.YtlghcbmkhdibdaaPFnSegmentsx1
import Derived.Test.YtlghcbmkhdibdaaPFnSegmentsx2
import Derived.Test.YtlghcbmkhdibdaaPFnSegmentsx3
import Derived.Test.YtlghcbmkhdibdaaPFnSegmentsx4
import Derived.Test.YtlghcbmkhdibdaaPFnSegmentsx5
namespace Go.Proofs.Ytlghcbmkhdibdaa.PFnSegments
open Go.RowKit Go.Proofs.YtlghcbmkhdibdaaW.PrintWords Go.Proofs.YtlghcbmkhdibdaaW.PrintLast Go.Proofs.YtlghcbmkhdibdaaW.PrintMore
attribute [local go_sem] max2_int min2_int max_two min_two max_three min_three max_four min_four   -- for this text's walks alone
set_option linter.unusedVariables false
set_option linter.unusedSimpArgs false

end Go.Proofs.Ytlghcbmkhdibdaa.PFnSegments
