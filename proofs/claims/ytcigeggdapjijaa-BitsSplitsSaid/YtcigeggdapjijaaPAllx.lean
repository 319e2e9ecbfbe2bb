-- written by a program of this session (a changed print)
import Derived.Test.YtcigeggdapjijaaPAllx0
import Derived.Test.YtcigeggdapjijaaPAllx1
import Derived.Test.YtcigeggdapjijaaPAllx2
import Derived.Test.YtcigeggdapjijaaPAllx3
import Derived.Test.YtcigeggdapjijaaPAllx4
import Derived.Test.YtcigeggdapjijaaPAllx5
import Derived.Test.YtcigeggdapjijaaPAllx6
import Derived.Test.YtcigeggdapjijaaPAllx7
import Derived.Test.YtcigeggdapjijaaPAllx8
import Derived.Test.YtcigeggdapjijaaPAllx9
namespace Go.Proofs.Ytcigeggdapjijaa.PAll
open Go.RowKit Go.Proofs.YtcigeggdapjijaaW.PrintWords Go.Proofs.YtcigeggdapjijaaW.PrintLast Go.Proofs.YtcigeggdapjijaaW.PrintMore
attribute [local go_sem] max2_int min2_int max_two min_two max_three min_three max_four min_four   -- for this text's walks alone
set_option linter.unusedVariables false
set_option linter.unusedSimpArgs false

end Go.Proofs.Ytcigeggdapjijaa.PAll
