/- The law FnExactConstants as a statement over numbers alone: each constant is the document's.
Conditions: none. -/
import Derived.Test.YtkmpfgpamlfldaaPFnExactConstantsx
import Derived.Test.YtkmpfgpamlfldaaPl
namespace Go.Proofs.Ytkmpfgpamlfldaa.Pure
open Go.RowKit Go.Proofs.Ytkmpfgpamlfldaa.PFnExactConstants Go.Proofs.YtkmpfgpamlfldaaW.PrintWords Go.Proofs.YtkmpfgpamlfldaaW.PrintLast Go.Proofs.YtkmpfgpamlfldaaW.PrintMore Go.Proofs.YtkmpfgpamlfldaaW.Pl
set_option linter.unusedVariables false
set_option linter.unusedSimpArgs false

theorem FnExactConstants : laws_FnExactConstants.Pure := by
  rfl

end Go.Proofs.Ytkmpfgpamlfldaa.Pure
