-- printed by a program of this session (wip/xp/xprint.py) out of the translation; Lean checks it
import Derived.Test.YtkmpfgpamlfldaaPFnExactLineOpenx0
import Derived.Test.YtkmpfgpamlfldaaPFnExactLineOpenx1
import Derived.Test.YtkmpfgpamlfldaaPFnExactLineOpenx2
namespace Go.Proofs.Ytkmpfgpamlfldaa.PFnExactLineOpen
open Go.RowKit Go.Proofs.YtkmpfgpamlfldaaW.PrintWords Go.Proofs.YtkmpfgpamlfldaaW.PrintLast Go.Proofs.YtkmpfgpamlfldaaW.PrintMore
attribute [local go_sem] max2_int min2_int max_two min_two max_three min_three max_four min_four   -- for this text's walks alone
set_option linter.unusedVariables false
set_option linter.unusedSimpArgs false

end Go.Proofs.Ytkmpfgpamlfldaa.PFnExactLineOpen
