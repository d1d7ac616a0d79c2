-- printed by a program of this session (wip/xp/xprint.py) out of the translation; Lean checks it
import Derived.Test.YtchoalagkcdbhaaPFnSyntaxx0
import Derived.Test.YtchoalagkcdbhaaPFnSyntaxx1
import Derived.Test.YtchoalagkcdbhaaPFnSyntaxx2
import Derived.Test.YtchoalagkcdbhaaPFnSyntaxx3
import Derived.Test.YtchoalagkcdbhaaPFnSyntaxx4
import Derived.Test.YtchoalagkcdbhaaPFnSyntaxx5
import Derived.Test.YtchoalagkcdbhaaPFnSyntaxx6
import Derived.Test.YtchoalagkcdbhaaPFnSyntaxx7
namespace Go.Proofs.Ytchoalagkcdbhaa.PFnSyntax
open Go.RowKit Go.Proofs.YtchoalagkcdbhaaW.PrintWords Go.Proofs.YtchoalagkcdbhaaW.PrintLast Go.Proofs.YtchoalagkcdbhaaW.PrintMore
attribute [local go_sem] max2_int min2_int max_two min_two max_three min_three max_four min_four   -- for this text's walks alone
set_option linter.unusedVariables false
set_option linter.unusedSimpArgs false

end Go.Proofs.Ytchoalagkcdbhaa.PFnSyntax
