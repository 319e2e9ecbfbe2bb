/- For any words the law BitsTotal answers true. -/
import Derived.Test.YtcigeggdapjijaaRef
namespace Go.Proofs.Ytcigeggdapjijaa.Pure
open Go.RowKit Go.Proofs.Ytcigeggdapjijaa.PAll Go.Proofs.YtcigeggdapjijaaW.PrintWords Go.Proofs.YtcigeggdapjijaaW.PrintLast Go.Proofs.YtcigeggdapjijaaW.PrintMore
set_option linter.unusedVariables false
set_option linter.unusedSimpArgs false

theorem ord_bd (x y : Int) : -1 ≤ ord x y ∧ ord x y ≤ 1 := by
  unfold ord; (repeat' split) <;> omega
theorem ord_neg {x y : Int} (hx : W64 x) (hy : W64 y) : ord y x = - ord x y := by
  have h0 := hx.1; have h1 := hx.2; have h2 := hy.1; have h3 := hy.2
  unfold ord; (repeat' split) <;> omega
theorem ord_zero {x y : Int} : ord x y = 0 ↔ x = y := by
  unfold ord; (repeat' split) <;> omega
theorem ord_trans {x y z : Int} (h : ord x y ≤ 0) (h2 : ord y z ≤ 0) : ¬ ord x z > 0 := by
  revert h h2; unfold ord; (repeat' split) <;> omega
theorem ord_pl {x y : Int} (hx : W64 x) (hy : W64 y) (nx : cls x ≠ 1) (ny : cls y ≠ 1) : pl x < pl y ↔ ord x y < 0 := by
  have h0 := hx.1; have h1 := hx.2; have h2 := hy.1; have h3 := hy.2
  have zx : x ≠ 0 ∧ x ≠ 9223372036854775808 := by
    constructor <;> (intro h; subst h; exact nx (by decide))
  have zy : y ≠ 0 ∧ y ≠ 9223372036854775808 := by
    constructor <;> (intro h; subst h; exact ny (by decide))
  unfold pl ord; (repeat' split) <;> omega
theorem BitsTotal : ulplaw01_BitsTotal.Pure := by
  intro x y z hx hy hz
  replace hx := w64_of hx; replace hy := w64_of hy; replace hz := w64_of hz
  refine ⟨10, ?_⟩
  have bx := ord_bd x y
  unfold ulplaw01_BitsTotal.f
  rw [order_eq hx hy, order_eq hy hz, order_eq hx hz, lives_eq (by decide), order_eq hy hx, ord_neg hx hy]
  simp only [Option.bind_some, if_true]
  rw [wrapS (by omega) (by omega)]
  have key : ulplaw01_BitsTotal.j0 10 x y (ord x y) false = some true := by
    simp only [ulplaw01_BitsTotal.j0, Bool.false_eq_true, if_false]
    rw [isNumber_eq (by decide) hx, isNumber_eq (by decide) hy]; simp only [Option.bind_some, decide_eq_true_eq]
    have out : ¬ (isNum x ∧ isNum y) → ulplaw01_BitsTotal.j1 9 x y (ord x y) false = some true := by
      intro h
      simp only [ulplaw01_BitsTotal.j1, Bool.false_eq_true, if_false]
      rw [less_eq hx hy]; simp only [Option.bind_some]
      have : ¬ (isNum x ∧ isNum y ∧ pl x < pl y) := fun g => h ⟨g.1, g.2.1⟩
      rw [decide_eq_false this]; rfl
    by_cases a : isNum x
    · rw [if_pos a]
      by_cases b : isNum y
      · simp only [b, decide_true, ulplaw01_BitsTotal.j1, if_true]
        rw [class_eq (by decide) hx, class_eq (by decide) hy, less_eq hx hy]; simp only [Option.bind_some]
        by_cases c : cls x = 1
        · rw [if_pos c]
        · rw [if_neg c]
          by_cases d : cls y = 1
          · rw [if_pos d]
          · rw [if_neg d]
            have := ord_pl hx hy c d
            simp [a, b, this]
      · simp only [b, decide_false]; exact out (fun h => b h.2)
    · rw [if_neg a]; exact out (fun h => a h.1)
  rw [if_pos (by omega)]
  have e : ((ord x y == 0) != (x == y)) = false := by
    rw [bne_eq_false_iff_eq, Bool.eq_iff_iff]; simp [ord_zero]
  rw [e]; simp only [Bool.false_eq_true, if_false]
  by_cases p : ord x y ≤ 0
  · rw [if_pos p]
    by_cases q : ord y z ≤ 0
    · rw [if_pos q, decide_eq_false (ord_trans p q)]; exact key
    · rw [if_neg q]; exact key
  · rw [if_neg p]; exact key

end Go.Proofs.Ytcigeggdapjijaa.Pure
