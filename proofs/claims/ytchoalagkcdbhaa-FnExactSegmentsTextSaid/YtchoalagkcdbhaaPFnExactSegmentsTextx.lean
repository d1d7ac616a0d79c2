-- printed by a program of this session (wip/xp/xprint.py) out of the translation; Lean checks it
import Derived.Test.YtchoalagkcdbhaaPFnExactSegmentsTextx0
import Derived.Test.YtchoalagkcdbhaaPFnExactSegmentsTextx1
import Derived.Test.YtchoalagkcdbhaaPFnExactSegmentsTextx2
import Derived.Test.YtchoalagkcdbhaaPFnExactSegmentsTextx3
import Derived.Test.YtchoalagkcdbhaaPFnExactSegmentsTextx4
import Derived.Test.YtchoalagkcdbhaaPFnExactSegmentsTextx5
import Derived.Test.YtchoalagkcdbhaaPFnExactSegmentsTextx6
import Derived.Test.YtchoalagkcdbhaaPFnExactSegmentsTextx7
import Derived.Test.YtchoalagkcdbhaaPFnExactSegmentsTextx8
import Derived.Test.YtchoalagkcdbhaaPFnExactSegmentsTextx9
import Derived.Test.YtchoalagkcdbhaaPFnExactSegmentsTextx10
import Derived.Test.YtchoalagkcdbhaaPFnExactSegmentsTextx11
import Derived.Test.YtchoalagkcdbhaaPFnExactSegmentsTextx12
namespace Go.Proofs.Ytchoalagkcdbhaa.PFnExactSegmentsText
open Go.RowKit Go.Proofs.YtchoalagkcdbhaaW.PrintWords Go.Proofs.YtchoalagkcdbhaaW.PrintLast Go.Proofs.YtchoalagkcdbhaaW.PrintMore
attribute [local go_sem] max2_int min2_int max_two min_two max_three min_three max_four min_four   -- for this text's walks alone
set_option linter.unusedVariables false
set_option linter.unusedSimpArgs false

end Go.Proofs.Ytchoalagkcdbhaa.PFnExactSegmentsText
