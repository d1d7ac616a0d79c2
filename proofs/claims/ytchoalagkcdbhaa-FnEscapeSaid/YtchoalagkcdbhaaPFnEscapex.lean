-- printed by a program of this session (wip/xp/xprint.py) out of the translation; Lean checks it
import Derived.Test.YtchoalagkcdbhaaPFnEscapex0
import Derived.Test.YtchoalagkcdbhaaPFnEscapex1
import Derived.Test.YtchoalagkcdbhaaPFnEscapex2
import Derived.Test.YtchoalagkcdbhaaPFnEscapex3
import Derived.Test.YtchoalagkcdbhaaPFnEscapex4
import Derived.Test.YtchoalagkcdbhaaPFnEscapex5
import Derived.Test.YtchoalagkcdbhaaPFnEscapex6
import Derived.Test.YtchoalagkcdbhaaPFnEscapex7
import Derived.Test.YtchoalagkcdbhaaPFnEscapex8
namespace Go.Proofs.Ytchoalagkcdbhaa.PFnEscape
open Go.RowKit Go.Proofs.YtchoalagkcdbhaaW.PrintWords Go.Proofs.YtchoalagkcdbhaaW.PrintLast Go.Proofs.YtchoalagkcdbhaaW.PrintMore
attribute [local go_sem] max2_int min2_int max_two min_two max_three min_three max_four min_four   -- for this text's walks alone
set_option linter.unusedVariables false
set_option linter.unusedSimpArgs false

end Go.Proofs.Ytchoalagkcdbhaa.PFnEscape
