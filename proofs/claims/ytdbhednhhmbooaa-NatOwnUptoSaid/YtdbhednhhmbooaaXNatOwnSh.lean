/- Small words for printed texts: tactics that recur, as default arguments. -/
import Derived.Test.YtdbhednhhmbooaaXNatOwnWWords
import Derived.Test.YtdbhednhhmbooaaXNatOwnWLast
import Derived.Test.YtdbhednhhmbooaaXNatOwnWTab
import Derived.Test.YtdbhednhhmbooaaXNatOwnWApart
import Derived.Test.YtdbhednhhmbooaaXNatOwnWFoot
import Derived.Test.YtdbhednhhmbooaaXNatOwnWKept
import Derived.Test.YtdbhednhhmbooaaXNatOwnWShare
import Derived.Test.YtdbhednhhmbooaaXNatOwnWN
import Derived.Test.YtdbhednhhmbooaaXNatOwnWRepsOne
import Derived.Test.YtdbhednhhmbooaaXNatOwnWInv
import Derived.Test.YtdbhednhhmbooaaXNatOwnWGuard
import Derived.Test.YtdbhednhhmbooaaXNatOwnWMore
namespace Go.Proofs.Ytdbhednhhmbooaa.PAll
open Go.RowKit Go.Proofs.YtdbhednhhmbooaaW.PrintWords Go.Proofs.YtdbhednhhmbooaaW.PrintLast Go.Proofs.YtdbhednhhmbooaaW.PrintMore
theorem bq {B : Nat} {w w' : World} (h : Below B w w' := by repeat (first | (with_reducible first | exact HB.out | apply below_alloc | apply pw_below_drewN | apply below_drew1) | exact HB.out)) : Below B w w' := h
theorem ga {α : Type} {a b : α} (h : a = b := by (try simp only [List.map_toArray, List.map_cons, List.map_nil]); first | done | rfl | (simp only [List.length_drop, List.length_take]; rfl)) : a = b := h
theorem od {p : Prop} [Decidable p] (h : decide p = true := by first | (with_reducible assumption) | assumption) : p := of_decide_eq_true h
theorem er {α : Type} {a b : α} (h : a = b := by first | rfl | (simp [errW_none, errW_some] <;> rfl) | (simp [*, errW_none, errW_some] <;> rfl)) : a = b := h
theorem dn {α : Type} {P : Prop} [Decidable P] {a : Option α} {r : α} (h : (if P then a else none) = some r) : P ∧ a = some r := by
  by_cases c : P
  · rw [if_pos c] at h; exact ⟨c, h⟩
  · rw [if_neg c] at h; cases h
theorem ru {α : Type} {d : Kd α} {e : TypeId} {W W' : World} {base : Nat} {ok : Nat → Prop} {v : Value} {xs : List α} (h : Kd.R d e W base ok v xs) (g : Kd.R d e W base ok v xs → Kd.R d e W' base ok v xs := by (intro h_; (with_reducible repeat (first | apply Kd.R_alloc | apply Kd.R_drewN | apply Kd.R_drew)); exact h_)) : Kd.R d e W' base ok v xs := g h
theorem vu {α : Type} {d : Kd α} {e : TypeId} {W W' : World} {base : Nat} {ok : Nat → Prop} {v : Value} {xs : List α} (h : Kd.V d e W base ok v xs) (g : Kd.V d e W base ok v xs → Kd.V d e W' base ok v xs := by (intro h_; (with_reducible repeat (first | apply Kd.V_alloc | apply Kd.V_drewN | apply Kd.V_drew)); exact h_)) : Kd.V d e W' base ok v xs := g h
end Go.Proofs.Ytdbhednhhmbooaa.PAll
