-- Written by a program of this session (wip/tools/print2.sh): functions as plain Lean, and that the machine's calls do what they say.
import Derived.Test.YtpfnnamicbbobaaPAllx0
import Derived.Test.YtpfnnamicbbobaaPAllx1
import Derived.Test.YtpfnnamicbbobaaPAllx2
import Derived.Test.YtpfnnamicbbobaaPAllx3
import Derived.Test.YtpfnnamicbbobaaPAllx4
import Derived.Test.YtpfnnamicbbobaaPAllx5
import Derived.Test.YtpfnnamicbbobaaPAllx6
import Derived.Test.YtpfnnamicbbobaaPAllx7
import Derived.Test.YtpfnnamicbbobaaPAllx8
import Derived.Test.YtpfnnamicbbobaaPAllx9
import Derived.Test.YtpfnnamicbbobaaPAllx10
namespace Go.Proofs.Ytpfnnamicbbobaa.PAll
open Go.RowKit Go.Proofs.YtpfnnamicbbobaaW.PrintWords Go.Proofs.YtpfnnamicbbobaaW.PrintLast Go.Proofs.YtpfnnamicbbobaaW.PrintMore
attribute [local go_sem] max2_int min2_int max_two min_two max_three min_three max_four min_four   -- for this text's walks alone
set_option linter.unusedVariables false
set_option linter.unusedSimpArgs false

end Go.Proofs.Ytpfnnamicbbobaa.PAll
