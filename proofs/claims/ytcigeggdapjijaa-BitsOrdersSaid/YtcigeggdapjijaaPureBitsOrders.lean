/- For any words the law BitsOrders answers true. -/
import Derived.Test.YtcigeggdapjijaaRef
namespace Go.Proofs.Ytcigeggdapjijaa.Pure
open Go.RowKit Go.Proofs.Ytcigeggdapjijaa.PAll Go.Proofs.YtcigeggdapjijaaW.PrintWords Go.Proofs.YtcigeggdapjijaaW.PrintLast Go.Proofs.YtcigeggdapjijaaW.PrintMore
set_option linter.unusedVariables false
set_option linter.unusedSimpArgs false

theorem BitsOrders : ulplaw01_BitsOrders.Pure := by
  intro x y hx hy
  replace hx := w64_of hx; replace hy := w64_of hy
  refine ⟨1200, ?_⟩
  unfold ulplaw01_BitsOrders.f
  rw [last_eq hx, rlast_eq hx, lives_eq (by decide), less_eq hx hy, rless_eq (by decide) hx hy, order_eq hx hy, rorder_eq (by decide) hx hy, whole_eq hx, rwhole_eq (by decide) hx, odd_eq hx, rodd_eq (by decide) hx]
  simp

end Go.Proofs.Ytcigeggdapjijaa.Pure
