-- Written by wip/plug/plug.py over the kit's print, for this seat.
import Derived.Test.YtflomobdaagekaaDoorQWordB0
import Derived.Test.YtflomobdaagekaaDoorQWordB1
import Derived.Test.YtflomobdaagekaaDoorQWordB2
import Derived.Test.YtflomobdaagekaaDoorQWordB3
import Derived.Test.YtflomobdaagekaaDoorQWordB4
import Derived.Test.YtflomobdaagekaaDoorQWordB5
namespace Go.Proofs.YtflomobdaagekaaDoorQ.WordB
open Go.RowKit Go.Proofs.YtflomobdaagekaaDoorW.PrintWords Go.Proofs.YtflomobdaagekaaDoorW.PrintLast Go.Proofs.YtflomobdaagekaaDoorW.PrintMore
attribute [local go_sem] max2_int min2_int max_two min_two max_three min_three max_four min_four   -- for this text's walks alone
set_option linter.unusedVariables false
set_option linter.unusedSimpArgs false
attribute [local go_sem] Go.Proofs.YtflomobdaagekaaDoor.fldWord_0 Go.Proofs.YtflomobdaagekaaDoor.fldWord_1 Go.Proofs.YtflomobdaagekaaDoor.fldWord_2 Go.Proofs.YtflomobdaagekaaDoor.fldLook_0 Go.Proofs.YtflomobdaagekaaDoor.fldLook_1

end Go.Proofs.YtflomobdaagekaaDoorQ.WordB
