/- Words of the printed texts, cut down to what is used. -/
import Derived.Test.YtjnfipkbgmdpaaaGreatDoorXAlgScaledWTab
namespace Go.Proofs.YtjnfipkbgmdpaaaGreatDoorW.PrintLast
def up (b : Nat → Bool) (i : Nat) : Nat → Bool := fun j => if j = i then true else b j
end Go.Proofs.YtjnfipkbgmdpaaaGreatDoorW.PrintLast
