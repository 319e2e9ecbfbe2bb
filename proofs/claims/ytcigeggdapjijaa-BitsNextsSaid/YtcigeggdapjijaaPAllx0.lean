-- written by a program of this session (a changed print)
import Derived.Test.YtcigeggdapjijaaProg
import Derived.Below
import Derived.Deep.Draws
import Derived.Deep.AppendLies
import Derived.Maps.AppendAt
import Derived.OwnWalk
import Derived.Laws.BytesArg
import Derived.Laws.MakeOwn
import Derived.Laws.OwnMore
import Derived.Deep.OwnRows
import Derived.Tactics
import Derived.Lib.ConvBytes
import Derived.Laws.Slices
import Derived.WalkKit
import Derived.KernelRfl
import Derived.RowKit3
import Derived.Deep.LoopGhost
import Derived.Deep.QuietTactic
import Derived.BigQuiet
import Derived.WideLaws
import Derived.Deep.DeepCutAuto
import Derived.Deep.CutBlock
import Derived.Deep.RegionHeld3
import Derived.Laws.Rows
import Derived.Lib.AppendStr
import Derived.ArgAppend
import Derived.Laws.IdiomCopy
import Derived.OrdersHeld
import Derived.Laws.BitsLemmas
import Derived.RowKit
import Derived.Test.YtcigeggdapjijaaWWords
import Derived.Test.YtcigeggdapjijaaWLast
import Derived.Test.YtcigeggdapjijaaWTab
import Derived.Test.YtcigeggdapjijaaWFour
import Derived.Test.YtcigeggdapjijaaWQPut
import Derived.Test.YtcigeggdapjijaaWApart
import Derived.Test.YtcigeggdapjijaaWArr
import Derived.Test.YtcigeggdapjijaaWZeros
import Derived.Test.YtcigeggdapjijaaWFoot
import Derived.Test.YtcigeggdapjijaaWKept
import Derived.Test.YtcigeggdapjijaaWShare
import Derived.Test.YtcigeggdapjijaaWN
import Derived.Test.YtcigeggdapjijaaWFootNe
import Derived.Test.YtcigeggdapjijaaWAt
import Derived.Test.YtcigeggdapjijaaWEqStruct
import Derived.Test.YtcigeggdapjijaaWRepsOne
import Derived.Test.YtcigeggdapjijaaWInv
import Derived.Test.YtcigeggdapjijaaWInvWords
import Derived.Test.YtcigeggdapjijaaWGuard
import Derived.Test.YtcigeggdapjijaaWNEv
import Derived.Test.YtcigeggdapjijaaWMore
namespace Go.Proofs.Ytcigeggdapjijaa.PAll
open Go.RowKit Go.Proofs.YtcigeggdapjijaaW.PrintWords Go.Proofs.YtcigeggdapjijaaW.PrintLast Go.Proofs.YtcigeggdapjijaaW.PrintMore
attribute [local go_sem] max2_int min2_int max_two min_two max_three min_three max_four min_four   -- for this text's walks alone
set_option linter.unusedVariables false
set_option linter.unusedSimpArgs false



def errW : Option Int → Value
  | none => .nilIface
  | some c => .iface 0 (.int .i64 c)
theorem errW_none : errW none = .nilIface := rfl
theorem errW_some (c : Int) : errW (some c) = .iface 0 (.int .i64 c) := rfl

-- the values' own types

theorem fld37_0 (v0 v1 v2 : Value) (w : World) : (Instr.field 37 (.agg #[v0, v1, v2]) 0).run Try.prog w = .ok (v0) w := by kernel_rfl
theorem fld37_1 (v0 v1 v2 : Value) (w : World) : (Instr.field 37 (.agg #[v0, v1, v2]) 1).run Try.prog w = .ok (v1) w := by kernel_rfl
theorem fld37_2 (v0 v1 v2 : Value) (w : World) : (Instr.field 37 (.agg #[v0, v1, v2]) 2).run Try.prog w = .ok (v2) w := by kernel_rfl
end Go.Proofs.Ytcigeggdapjijaa.PAll
