-- Written by a program of this session (wip/tools/mkprint.py, mp.sh) for this claim.
import Derived.Test.YthfhljdegbcpmaaPAx0
import Derived.Test.YthfhljdegbcpmaaPAx1
import Derived.Test.YthfhljdegbcpmaaPAx2
import Derived.Test.YthfhljdegbcpmaaPAx3
import Derived.Test.YthfhljdegbcpmaaPAx4
import Derived.Test.YthfhljdegbcpmaaPAx5
import Derived.Test.YthfhljdegbcpmaaPAx6
import Derived.Test.YthfhljdegbcpmaaPAx7
import Derived.Test.YthfhljdegbcpmaaPAx8
import Derived.Test.YthfhljdegbcpmaaPAx9
namespace Go.Proofs.Ythfhljdegbcpmaa.PA
open Go.RowKit Go.Proofs.YthfhljdegbcpmaaW.PrintWords Go.Proofs.YthfhljdegbcpmaaW.PrintLast Go.Proofs.YthfhljdegbcpmaaW.PrintMore
attribute [local go_sem] max2_int min2_int max_two min_two max_three min_three max_four min_four   -- for this text's walks alone
set_option linter.unusedVariables false
set_option linter.unusedSimpArgs false

end Go.Proofs.Ythfhljdegbcpmaa.PA
