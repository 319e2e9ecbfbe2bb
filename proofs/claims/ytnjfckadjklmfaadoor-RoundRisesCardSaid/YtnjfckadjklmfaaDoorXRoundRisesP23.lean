/- Printed functions, merged by a program of this session. -/
import Derived.Test.YtnjfckadjklmfaaDoorXRoundRisesP0
import Derived.Test.YtnjfckadjklmfaaDoorXRoundRisesP12
import Derived.Test.YtnjfckadjklmfaaDoorXRoundRisesSh
namespace Go.Proofs.YtnjfckadjklmfaaDoor.PAll
open Go.RowKit Go.Proofs.YtnjfckadjklmfaaDoorW.PrintWords Go.Proofs.YtnjfckadjklmfaaDoorW.PrintLast Go.Proofs.YtnjfckadjklmfaaDoorW.PrintMore Go.Proofs.YtnjfckadjklmfaaDoorW.PrintWords.Kd
attribute [local go_sem] max2_int min2_int max_two min_two max_three min_three max_four min_four   -- for this text's walks alone
set_option linter.unusedVariables false
set_option linter.unusedSimpArgs false
attribute [local go_sem] fld75_0 fld75_1 fld75_2 ext118 ext119
def bits_Split.f (a0 : Int) : Option (Bool × Int × Int) := some (((Go.bits .and .u64 a0 9223372036854775808) != 0), wrap64 (Go.bits .and .u64 (a0 / 4503599627370496) 2047), Go.bits .and .u64 a0 4503599627370495)
def bits_finite.f (a0 : Int) : Option (Bool) := (bits_amount.f a0).bind fun a1 => (some (decide (a1 < 9218868437227405312)))
def bits_Last.f (a0 : Int) : Option (Int × Int) := (bits_finite.f a0).bind fun a2 => (if a2 = true then ((bits_Split.f a0).bind fun a1 => (some (wrap64 ((mx a1.2.1 1) - 1075), 0))) else (some (0, 5)))
end Go.Proofs.YtnjfckadjklmfaaDoor.PAll
