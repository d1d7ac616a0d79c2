-- printed by a program of this session (wip/xp/xprint.py) out of the translation; Lean checks it
import Derived.Test.YtchoalagkcdbhaaPFnExactSegmentsReadx0
import Derived.Test.YtchoalagkcdbhaaPFnExactSegmentsReadx1
import Derived.Test.YtchoalagkcdbhaaPFnExactSegmentsReadx2
import Derived.Test.YtchoalagkcdbhaaPFnExactSegmentsReadx3
import Derived.Test.YtchoalagkcdbhaaPFnExactSegmentsReadx4
import Derived.Test.YtchoalagkcdbhaaPFnExactSegmentsReadx5
namespace Go.Proofs.Ytchoalagkcdbhaa.PFnExactSegmentsRead
open Go.RowKit Go.Proofs.YtchoalagkcdbhaaW.PrintWords Go.Proofs.YtchoalagkcdbhaaW.PrintLast Go.Proofs.YtchoalagkcdbhaaW.PrintMore
attribute [local go_sem] max2_int min2_int max_two min_two max_three min_three max_four min_four   -- for this text's walks alone
set_option linter.unusedVariables false
set_option linter.unusedSimpArgs false

end Go.Proofs.Ytchoalagkcdbhaa.PFnExactSegmentsRead
