-- What a program of the kit printed for this seat, without what this claim does not use (struck by wip/tools/prune.py).
/- tontineref18.made: contracts typed by hand, one for each operation. -/
import Derived.Test.YtpfnnamicbbobaaHS
import Derived.Test.YtpfnnamicbbobaaProg
import Derived.Lib.Hide
import Derived.Deep.QuietTactic
import Derived.BigQuiet
namespace Go.Proofs.Ytpfnnamicbbobaa.HD
set_option linter.unusedSimpArgs false
set_option linter.unusedVariables false
open Go.RowKit Go.Proofs.Ytpfnnamicbbobaa.HS
end Go.Proofs.Ytpfnnamicbbobaa.HD
