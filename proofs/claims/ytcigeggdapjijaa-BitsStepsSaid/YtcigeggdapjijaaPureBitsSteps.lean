/- For any words the law BitsSteps answers true. -/
import Derived.Test.YtcigeggdapjijaaRef
namespace Go.Proofs.Ytcigeggdapjijaa.Pure
open Go.RowKit Go.Proofs.Ytcigeggdapjijaa.PAll Go.Proofs.YtcigeggdapjijaaW.PrintWords Go.Proofs.YtcigeggdapjijaaW.PrintLast Go.Proofs.YtcigeggdapjijaaW.PrintMore
set_option linter.unusedVariables false
set_option linter.unusedSimpArgs false

theorem BitsSteps : ulplaw01_BitsSteps.Pure := by
  intro x y z hx hy hz
  replace hx := w64_of hx; replace hy := w64_of hy; replace hz := w64_of hz
  refine ⟨10, ?_⟩
  have h0 := hx.1; have h1 := hx.2
  have px := pl_bd hx; have py := pl_bd hy; have pz := pl_bd hz
  unfold ulplaw01_BitsSteps.f
  rw [steps_eq (by decide) hx hy, steps_eq (by decide) hy hz, steps_eq (by decide) hx hz, lives_eq (by decide)]
  simp only [Option.bind_some, if_true]
  have key : ∀ b : Bool, b = false → ulplaw01_BitsSteps.j0 10 x b = some true := by
    intro b hb; subst hb
    simp only [ulplaw01_BitsSteps.j0, Bool.false_eq_true, if_false]
    rw [isNumber_eq (by decide) hx]; simp only [Option.bind_some, decide_eq_true_eq]
    by_cases a : isNum x
    · have a' : x % 9223372036854775808 ≤ 9218868437227405312 := a
      rw [if_pos a]
      simp only [ulplaw01_BitsSteps.j1]
      by_cases c : x = 9218868437227405312
      · simp [c]
      · rw [if_neg (by simpa using c), up_eq (by decide) hx]; simp only [Option.bind_some]
        rw [steps_eq (by decide) hx (up_w hx)]; simp only [Option.bind_some]
        have n1 : isNum (up x) := by unfold isNum up; rw [if_pos a, if_neg c]; (repeat' split) <;> omega
        have e : pl (up x) = pl x + 1 := by
          unfold pl up; rw [if_pos a, if_neg c]; (repeat' split) <;> omega
        have hs : steps x (up x) = (1, 0) := by
          unfold steps; rw [if_pos ⟨a, n1⟩, e, if_neg (by omega)]; congr 1; omega
        rw [hs]; rfl
    · rw [if_neg a]; simp only [ulplaw01_BitsSteps.j1, if_true]
  by_cases a : isNum x <;> by_cases b : isNum y <;> by_cases c : isNum z <;> simp only [steps, a, b, c, and_self, and_true, and_false, true_and, false_and, if_true, if_false]
  · by_cases d : pl y < pl x
    · simp [d, key]
    · by_cases e : pl z < pl y
      · simp [d, e, key]
      · have f : ¬ pl z < pl x := by omega
        simp only [d, e, f, if_false, if_true]
        apply key
        rw [IntKind.wrap_u64, bne_eq_false_iff_eq]; omega
  all_goals (repeat' split) <;> first | (exact key _ rfl) | (exfalso; omega)

end Go.Proofs.Ytcigeggdapjijaa.Pure
