/- Words of the printed texts, cut down to what is used. -/
import Derived.Test.YtdbhednhhmbooaaDoorXNatBetweenWTab
namespace Go.Proofs.YtdbhednhhmbooaaDoorW.PrintLast
/-- Number i is listed too. -/
def up (b : Nat → Bool) (i : Nat) : Nat → Bool := fun j => if j = i then true else b j
end Go.Proofs.YtdbhednhhmbooaaDoorW.PrintLast
