-- printed by a program of this session (wip/xp/xprint.py) out of the translation; Lean checks it
import Derived.Test.YtlghcbmkhdibdaaPFnFirstSegmentsx0
import Derived.Test.YtlghcbmkhdibdaaPFnFirstSegmentsx1
import Derived.Test.YtlghcbmkhdibdaaPFnFirstSegmentsx2
import Derived.Test.YtlghcbmkhdibdaaPFnFirstSegmentsx3
import Derived.Test.YtlghcbmkhdibdaaPFnFirstSegmentsx4
import Derived.Test.YtlghcbmkhdibdaaPFnFirstSegmentsx5
namespace Go.Proofs.Ytlghcbmkhdibdaa.PFnFirstSegments
open Go.RowKit Go.Proofs.YtlghcbmkhdibdaaW.PrintWords Go.Proofs.YtlghcbmkhdibdaaW.PrintLast Go.Proofs.YtlghcbmkhdibdaaW.PrintMore
attribute [local go_sem] max2_int min2_int max_two min_two max_three min_three max_four min_four   -- for this text's walks alone
set_option linter.unusedVariables false
set_option linter.unusedSimpArgs false

end Go.Proofs.Ytlghcbmkhdibdaa.PFnFirstSegments
