-- printed by a program of this session (wip/xp/xprint.py) out of the translation; Lean checks it
import Derived.Test.YtlghcbmkhdibdaaGreatDoorPFnExactIxSegmentsx0
import Derived.Test.YtlghcbmkhdibdaaGreatDoorPFnExactIxSegmentsx1
import Derived.Test.YtlghcbmkhdibdaaGreatDoorPFnExactIxSegmentsx2
import Derived.Test.YtlghcbmkhdibdaaGreatDoorPFnExactIxSegmentsx3
import Derived.Test.YtlghcbmkhdibdaaGreatDoorPFnExactIxSegmentsx4
namespace Go.Proofs.YtlghcbmkhdibdaaGreatDoor.PFnExactIxSegments
open Go.RowKit Go.Proofs.YtlghcbmkhdibdaaGreatDoorW.PrintWords Go.Proofs.YtlghcbmkhdibdaaGreatDoorW.PrintLast Go.Proofs.YtlghcbmkhdibdaaGreatDoorW.PrintMore
attribute [local go_sem] max2_int min2_int max_two min_two max_three min_three max_four min_four   -- for this text's walks alone
set_option linter.unusedVariables false
set_option linter.unusedSimpArgs false

end Go.Proofs.YtlghcbmkhdibdaaGreatDoor.PFnExactIxSegments
