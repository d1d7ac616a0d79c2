-- printed by a program of this session (wip/xp/xprint.py) out of the translation; Lean checks it
import Derived.Test.YtchoalagkcdbhaaPFnExactSegmentTextx0
import Derived.Test.YtchoalagkcdbhaaPFnExactSegmentTextx1
import Derived.Test.YtchoalagkcdbhaaPFnExactSegmentTextx2
import Derived.Test.YtchoalagkcdbhaaPFnExactSegmentTextx3
import Derived.Test.YtchoalagkcdbhaaPFnExactSegmentTextx4
import Derived.Test.YtchoalagkcdbhaaPFnExactSegmentTextx5
import Derived.Test.YtchoalagkcdbhaaPFnExactSegmentTextx6
import Derived.Test.YtchoalagkcdbhaaPFnExactSegmentTextx7
import Derived.Test.YtchoalagkcdbhaaPFnExactSegmentTextx8
import Derived.Test.YtchoalagkcdbhaaPFnExactSegmentTextx9
import Derived.Test.YtchoalagkcdbhaaPFnExactSegmentTextx10
namespace Go.Proofs.Ytchoalagkcdbhaa.PFnExactSegmentText
open Go.RowKit Go.Proofs.YtchoalagkcdbhaaW.PrintWords Go.Proofs.YtchoalagkcdbhaaW.PrintLast Go.Proofs.YtchoalagkcdbhaaW.PrintMore
attribute [local go_sem] max2_int min2_int max_two min_two max_three min_three max_four min_four   -- for this text's walks alone
set_option linter.unusedVariables false
set_option linter.unusedSimpArgs false

end Go.Proofs.Ytchoalagkcdbhaa.PFnExactSegmentText
