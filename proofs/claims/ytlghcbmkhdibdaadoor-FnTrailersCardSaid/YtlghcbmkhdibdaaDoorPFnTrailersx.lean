-- printed by a program of this session (wip/xp/xprint.py) out of the translation; Lean checks it
import Derived.Test.YtlghcbmkhdibdaaDoorPFnTrailersx0
import Derived.Test.YtlghcbmkhdibdaaDoorPFnTrailersx1
import Derived.Test.YtlghcbmkhdibdaaDoorPFnTrailersx2
import Derived.Test.YtlghcbmkhdibdaaDoorPFnTrailersx3
import Derived.Test.YtlghcbmkhdibdaaDoorPFnTrailersx4
import Derived.Test.YtlghcbmkhdibdaaDoorPFnTrailersx5
import Derived.Test.YtlghcbmkhdibdaaDoorPFnTrailersx6
import Derived.Test.YtlghcbmkhdibdaaDoorPFnTrailersx7
namespace Go.Proofs.YtlghcbmkhdibdaaDoor.PFnTrailers
open Go.RowKit Go.Proofs.YtlghcbmkhdibdaaDoorW.PrintWords Go.Proofs.YtlghcbmkhdibdaaDoorW.PrintLast Go.Proofs.YtlghcbmkhdibdaaDoorW.PrintMore
attribute [local go_sem] max2_int min2_int max_two min_two max_three min_three max_four min_four   -- for this text's walks alone
set_option linter.unusedVariables false
set_option linter.unusedSimpArgs false

end Go.Proofs.YtlghcbmkhdibdaaDoor.PFnTrailers
