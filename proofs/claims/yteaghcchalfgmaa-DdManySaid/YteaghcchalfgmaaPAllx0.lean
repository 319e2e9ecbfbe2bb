-- written by a program of this session (a changed print)
import Derived.Test.YteaghcchalfgmaaProg
import Derived.Below
import Derived.Deep.Draws
import Derived.Deep.AppendLies
import Derived.Maps.AppendAt
import Derived.OwnWalk
import Derived.Laws.BytesArg
import Derived.Laws.MakeOwn
import Derived.Laws.OwnMore
import Derived.Deep.OwnRows
import Derived.Tactics
import Derived.Lib.ConvBytes
import Derived.Laws.Slices
import Derived.WalkKit
import Derived.KernelRfl
import Derived.RowKit3
import Derived.Deep.LoopGhost
import Derived.Deep.QuietTactic
import Derived.BigQuiet
import Derived.WideLaws
import Derived.Deep.DeepCutAuto
import Derived.Deep.CutBlock
import Derived.Deep.RegionHeld3
import Derived.Laws.Rows
import Derived.Lib.AppendStr
import Derived.ArgAppend
import Derived.Laws.IdiomCopy
import Derived.OrdersHeld
import Derived.Laws.BitsLemmas
import Derived.RowKit
import Derived.Test.YteaghcchalfgmaaWWords
import Derived.Test.YteaghcchalfgmaaWLast
import Derived.Test.YteaghcchalfgmaaWTab
import Derived.Test.YteaghcchalfgmaaWFour
import Derived.Test.YteaghcchalfgmaaWQPut
import Derived.Test.YteaghcchalfgmaaWApart
import Derived.Test.YteaghcchalfgmaaWArr
import Derived.Test.YteaghcchalfgmaaWZeros
import Derived.Test.YteaghcchalfgmaaWFoot
import Derived.Test.YteaghcchalfgmaaWKept
import Derived.Test.YteaghcchalfgmaaWShare
import Derived.Test.YteaghcchalfgmaaWN
import Derived.Test.YteaghcchalfgmaaWFootNe
import Derived.Test.YteaghcchalfgmaaWAt
import Derived.Test.YteaghcchalfgmaaWEqStruct
import Derived.Test.YteaghcchalfgmaaWRepsOne
import Derived.Test.YteaghcchalfgmaaWInv
import Derived.Test.YteaghcchalfgmaaWInvWords
import Derived.Test.YteaghcchalfgmaaWGuard
import Derived.Test.YteaghcchalfgmaaWNEv
import Derived.Test.YteaghcchalfgmaaWMore
namespace Go.Proofs.Yteaghcchalfgmaa.PAll
open Go.RowKit Go.Proofs.YteaghcchalfgmaaW.PrintWords Go.Proofs.YteaghcchalfgmaaW.PrintLast Go.Proofs.YteaghcchalfgmaaW.PrintMore
attribute [local go_sem] max2_int min2_int max_two min_two max_three min_three max_four min_four   -- for this text's walks alone
set_option linter.unusedVariables false
set_option linter.unusedSimpArgs false



def errW : Option Int → Value
  | none => .nilIface
  | some c => .iface 0 (.int .i64 c)
theorem errW_none : errW none = .nilIface := rfl
theorem errW_some (c : Int) : errW (some c) = .iface 0 (.int .i64 c) := rfl

theorem info52 : (Try.prog.info? 52).map (fun i => (i.zero, i.size, i.bytes)) = some (some (.int .u64 0), 1, 8) := by kernel_rfl
-- the values' own types

end Go.Proofs.Yteaghcchalfgmaa.PAll
