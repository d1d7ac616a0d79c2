-- printed by a program of this session (wip/xp/xprint.py) out of the translation; Lean checks it
import Derived.Test.YtkmpfgpamlfldaaProg
import Derived.Below
import Derived.Deep.Draws
import Derived.Deep.AppendLies
import Derived.Maps.AppendAt
import Derived.OwnWalk
import Derived.Laws.BytesArg
import Derived.Laws.MakeOwn
import Derived.Laws.OwnMore
import Derived.Deep.OwnRows
import Derived.Tactics
import Derived.Lib.ConvBytes
import Derived.Laws.Slices
import Derived.WalkKit
import Derived.KernelRfl
import Derived.RowKit3
import Derived.Deep.LoopGhost
import Derived.Deep.QuietTactic
import Derived.BigQuiet
import Derived.WideLaws
import Derived.Deep.DeepCutAuto
import Derived.Deep.CutBlock
import Derived.Deep.RegionHeld3
import Derived.Laws.Rows
import Derived.Lib.AppendStr
import Derived.ArgAppend
import Derived.Laws.IdiomCopy
import Derived.OrdersHeld
import Derived.Laws.BitsLemmas
import Derived.RowKit
import Derived.Test.YtkmpfgpamlfldaaWWords
import Derived.Test.YtkmpfgpamlfldaaWLast
import Derived.Test.YtkmpfgpamlfldaaWTab
import Derived.Test.YtkmpfgpamlfldaaWFour
import Derived.Test.YtkmpfgpamlfldaaWQPut
import Derived.Test.YtkmpfgpamlfldaaWApart
import Derived.Test.YtkmpfgpamlfldaaWArr
import Derived.Test.YtkmpfgpamlfldaaWZeros
import Derived.Test.YtkmpfgpamlfldaaWFoot
import Derived.Test.YtkmpfgpamlfldaaWKept
import Derived.Test.YtkmpfgpamlfldaaWShare
import Derived.Test.YtkmpfgpamlfldaaWN
import Derived.Test.YtkmpfgpamlfldaaWFootNe
import Derived.Test.YtkmpfgpamlfldaaWAt
import Derived.Test.YtkmpfgpamlfldaaWEqStruct
import Derived.Test.YtkmpfgpamlfldaaWRepsOne
import Derived.Test.YtkmpfgpamlfldaaWInv
import Derived.Test.YtkmpfgpamlfldaaWInvWords
import Derived.Test.YtkmpfgpamlfldaaWGuard
import Derived.Test.YtkmpfgpamlfldaaWNEv
import Derived.Test.YtkmpfgpamlfldaaWMore
import Derived.Test.YtkmpfgpamlfldaaVia
namespace Go.Proofs.Ytkmpfgpamlfldaa.PFnExactLineOpen
open Go.RowKit Go.Proofs.YtkmpfgpamlfldaaW.PrintWords Go.Proofs.YtkmpfgpamlfldaaW.PrintLast Go.Proofs.YtkmpfgpamlfldaaW.PrintMore
attribute [local go_sem] max2_int min2_int max_two min_two max_three min_three max_four min_four   -- for this text's walks alone
set_option linter.unusedVariables false
set_option linter.unusedSimpArgs false



def errW : Option Int → Value
  | none => .nilIface
  | some c => .iface 0 (.int .i64 c)
theorem errW_none : errW none = .nilIface := rfl
theorem errW_some (c : Int) : errW (some c) = .iface 0 (.int .i64 c) := rfl

-- the values' own types

end Go.Proofs.Ytkmpfgpamlfldaa.PFnExactLineOpen
