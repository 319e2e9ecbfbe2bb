/- Printed functions. -/
import Derived.Test.YtnjfckadjklmfaaDoorXRoundWithinP7
namespace Go.Proofs.YtnjfckadjklmfaaDoor.PAll
open RowKit YtnjfckadjklmfaaDoorW.PrintWords YtnjfckadjklmfaaDoorW.PrintLast YtnjfckadjklmfaaDoorW.PrintMore YtnjfckadjklmfaaDoorW.PrintWords.Kd
attribute [local go_sem] Z0V Z0W Z1d Z1e Z0E Z0F Z0X Z0Y
set_option linter.unusedVariables false
set_option maxHeartbeats 8000000
set_option maxRecDepth 100000
set_option linter.unusedSimpArgs false
attribute [local go_sem] fld75_0 fld75_1 fld75_2 ext118 ext119
def Z44.f (a0 : Int) : Option (Bool × Int × Int) := some (((Go.bits .and .u64 a0 9223372036854775808) != 0), wrap64 (Go.bits .and .u64 (a0 / 4503599627370496) 2047), Go.bits .and .u64 a0 4503599627370495)
def Z3Q.f (a0 : Int) : Option (Bool) := (Z1W.f a0).bind fun a1 => (some (decide (a1 < 9218868437227405312)))
def Z5T.f (a0 : Int) : Option (Int × Int) := (Z3Q.f a0).bind fun a2 => (if a2 = true then ((Z44.f a0).bind fun a1 => (some (wrap64 ((mx a1.2.1 1) - 1075), 0))) else (some (0, 5)))
end Go.Proofs.YtnjfckadjklmfaaDoor.PAll
