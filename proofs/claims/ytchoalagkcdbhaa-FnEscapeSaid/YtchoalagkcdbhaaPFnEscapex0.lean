-- printed by a program of this session (wip/xp/xprint.py) out of the translation; Lean checks it
import Derived.Test.YtchoalagkcdbhaaProg
import Derived.Below
import Derived.Deep.Draws
import Derived.Deep.AppendLies
import Derived.Maps.AppendAt
import Derived.OwnWalk
import Derived.Laws.BytesArg
import Derived.Laws.MakeOwn
import Derived.Laws.OwnMore
import Derived.Deep.OwnRows
import Derived.Tactics
import Derived.Lib.ConvBytes
import Derived.Laws.Slices
import Derived.WalkKit
import Derived.KernelRfl
import Derived.RowKit3
import Derived.Deep.LoopGhost
import Derived.Deep.QuietTactic
import Derived.BigQuiet
import Derived.WideLaws
import Derived.Deep.DeepCutAuto
import Derived.Deep.CutBlock
import Derived.Deep.RegionHeld3
import Derived.Laws.Rows
import Derived.Lib.AppendStr
import Derived.ArgAppend
import Derived.Laws.IdiomCopy
import Derived.OrdersHeld
import Derived.Laws.BitsLemmas
import Derived.RowKit
import Derived.Test.YtchoalagkcdbhaaWWords
import Derived.Test.YtchoalagkcdbhaaWLast
import Derived.Test.YtchoalagkcdbhaaWTab
import Derived.Test.YtchoalagkcdbhaaWFour
import Derived.Test.YtchoalagkcdbhaaWQPut
import Derived.Test.YtchoalagkcdbhaaWApart
import Derived.Test.YtchoalagkcdbhaaWArr
import Derived.Test.YtchoalagkcdbhaaWZeros
import Derived.Test.YtchoalagkcdbhaaWFoot
import Derived.Test.YtchoalagkcdbhaaWKept
import Derived.Test.YtchoalagkcdbhaaWShare
import Derived.Test.YtchoalagkcdbhaaWN
import Derived.Test.YtchoalagkcdbhaaWFootNe
import Derived.Test.YtchoalagkcdbhaaWAt
import Derived.Test.YtchoalagkcdbhaaWEqStruct
import Derived.Test.YtchoalagkcdbhaaWRepsOne
import Derived.Test.YtchoalagkcdbhaaWInv
import Derived.Test.YtchoalagkcdbhaaWInvWords
import Derived.Test.YtchoalagkcdbhaaWGuard
import Derived.Test.YtchoalagkcdbhaaWNEv
import Derived.Test.YtchoalagkcdbhaaWMore
import Derived.Test.YtchoalagkcdbhaaVia
namespace Go.Proofs.Ytchoalagkcdbhaa.PFnEscape
open Go.RowKit Go.Proofs.YtchoalagkcdbhaaW.PrintWords Go.Proofs.YtchoalagkcdbhaaW.PrintLast Go.Proofs.YtchoalagkcdbhaaW.PrintMore
attribute [local go_sem] max2_int min2_int max_two min_two max_three min_three max_four min_four   -- for this text's walks alone
set_option linter.unusedVariables false
set_option linter.unusedSimpArgs false



def errW : Option Int → Value
  | none => .nilIface
  | some c => .iface 0 (.int .i64 c)
theorem errW_none : errW none = .nilIface := rfl
theorem errW_some (c : Int) : errW (some c) = .iface 0 (.int .i64 c) := rfl

theorem info2 : (Try.prog.info? 2).map (fun i => (i.zero, i.size, i.bytes)) = some (some (.int .i64 0), 1, 8) := by kernel_rfl
theorem info5 : (Try.prog.info? 5).map (fun i => (i.zero, i.size, i.bytes)) = some (some (.int .u8 0), 1, 1) := by kernel_rfl
theorem info9 : (Try.prog.info? 9).map (fun i => (i.zero, i.size, i.bytes)) = some (some (.string ⟨#[]⟩), 1, 16) := by kernel_rfl
-- the values' own types

end Go.Proofs.Ytchoalagkcdbhaa.PFnEscape
