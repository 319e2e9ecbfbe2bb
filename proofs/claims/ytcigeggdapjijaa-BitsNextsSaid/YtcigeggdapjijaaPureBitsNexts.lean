/- For any words the law BitsNexts answers true. -/
import Derived.Test.YtcigeggdapjijaaRef
namespace Go.Proofs.Ytcigeggdapjijaa.Pure
open Go.RowKit Go.Proofs.Ytcigeggdapjijaa.PAll Go.Proofs.YtcigeggdapjijaaW.PrintWords Go.Proofs.YtcigeggdapjijaaW.PrintLast Go.Proofs.YtcigeggdapjijaaW.PrintMore
set_option linter.unusedVariables false
set_option linter.unusedSimpArgs false

theorem BitsNexts : ulplaw01_BitsNexts.Pure := by
  intro x y hx hy
  replace hx := w64_of hx; replace hy := w64_of hy
  refine ⟨10, ?_⟩
  unfold ulplaw01_BitsNexts.f
  rw [steps_eq (by decide) hx hy, rsteps_eq (by decide) hx hy, lives_eq (by decide), up_eq (by decide) hx, rup_eq (by decide) hx, down_eq (by decide) hx, rdown_eq (by decide) hx, neg_eq hx, rneg_eq hx, abs_eq hx, rabs_eq hx]
  simp

end Go.Proofs.Ytcigeggdapjijaa.Pure
