-- Written by a program of this session (wip/tools/print2.sh): functions as plain Lean, and that the machine's calls do what they say.
import Derived.Test.YtaogejkmkalnlaaPAllx0
import Derived.Test.YtaogejkmkalnlaaPAllx1
import Derived.Test.YtaogejkmkalnlaaPAllx2
import Derived.Test.YtaogejkmkalnlaaPAllx3
import Derived.Test.YtaogejkmkalnlaaPAllx4
import Derived.Test.YtaogejkmkalnlaaPAllx5
import Derived.Test.YtaogejkmkalnlaaPAllx6
import Derived.Test.YtaogejkmkalnlaaPAllx7
import Derived.Test.YtaogejkmkalnlaaPAllx8
import Derived.Test.YtaogejkmkalnlaaPAllx9
import Derived.Test.YtaogejkmkalnlaaPAllx10
import Derived.Test.YtaogejkmkalnlaaPAllx11
import Derived.Test.YtaogejkmkalnlaaPAllx12
import Derived.Test.YtaogejkmkalnlaaPAllx13
import Derived.Test.YtaogejkmkalnlaaPAllx14
import Derived.Test.YtaogejkmkalnlaaPAllx15
import Derived.Test.YtaogejkmkalnlaaPAllx16
namespace Go.Proofs.Ytaogejkmkalnlaa.PAll
open Go.RowKit Go.Proofs.YtaogejkmkalnlaaW.PrintWords Go.Proofs.YtaogejkmkalnlaaW.PrintLast Go.Proofs.YtaogejkmkalnlaaW.PrintMore
attribute [local go_sem] max2_int min2_int max_two min_two max_three min_three max_four min_four   -- for this text's walks alone
set_option linter.unusedVariables false
set_option linter.unusedSimpArgs false

end Go.Proofs.Ytaogejkmkalnlaa.PAll
