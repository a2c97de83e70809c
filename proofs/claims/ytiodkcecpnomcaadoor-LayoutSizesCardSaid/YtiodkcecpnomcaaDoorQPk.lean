-- Written by wip/plug/plug.py over the kit's print, for this seat.
import Derived.Test.YtiodkcecpnomcaaDoorQPk0
import Derived.Test.YtiodkcecpnomcaaDoorQPk1
import Derived.Test.YtiodkcecpnomcaaDoorQPk2
import Derived.Test.YtiodkcecpnomcaaDoorQPk3
namespace Go.Proofs.YtiodkcecpnomcaaDoorQ.Pk
open Go.RowKit Go.Proofs.YtiodkcecpnomcaaDoorW.PrintWords Go.Proofs.YtiodkcecpnomcaaDoorW.PrintLast Go.Proofs.YtiodkcecpnomcaaDoorW.PrintMore
attribute [local go_sem] max2_int min2_int max_two min_two max_three min_three max_four min_four   -- for this text's walks alone
set_option linter.unusedVariables false
set_option linter.unusedSimpArgs false

end Go.Proofs.YtiodkcecpnomcaaDoorQ.Pk
