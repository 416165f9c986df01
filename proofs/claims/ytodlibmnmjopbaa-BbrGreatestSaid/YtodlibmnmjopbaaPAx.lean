-- Written by a program of this session (wip/tools/mkprint.py, mp.sh) for this claim.
import Derived.Test.YtodlibmnmjopbaaPAx0
import Derived.Test.YtodlibmnmjopbaaPAx1
import Derived.Test.YtodlibmnmjopbaaPAx2
import Derived.Test.YtodlibmnmjopbaaPAx3
import Derived.Test.YtodlibmnmjopbaaPAx4
import Derived.Test.YtodlibmnmjopbaaPAx5
import Derived.Test.YtodlibmnmjopbaaPAx6
import Derived.Test.YtodlibmnmjopbaaPAx7
import Derived.Test.YtodlibmnmjopbaaPAx8
import Derived.Test.YtodlibmnmjopbaaPAx9
namespace Go.Proofs.Ytodlibmnmjopbaa.PA
open Go.RowKit Go.Proofs.YtodlibmnmjopbaaW.PrintWords Go.Proofs.YtodlibmnmjopbaaW.PrintLast Go.Proofs.YtodlibmnmjopbaaW.PrintMore
attribute [local go_sem] max2_int min2_int max_two min_two max_three min_three max_four min_four   -- for this text's walks alone
set_option linter.unusedVariables false
set_option linter.unusedSimpArgs false

end Go.Proofs.Ytodlibmnmjopbaa.PA
