-- What a program of the kit printed for this seat, without what this claim does not use (struck by wip/tools/prune.py).
import Derived.Test.YtpfnnamicbbobaaWInv
import Derived.Test.YtpfnnamicbbobaaWFootNe
namespace Go.Proofs.YtpfnnamicbbobaaW.PrintWords
open Go.RowKit
end Go.Proofs.YtpfnnamicbbobaaW.PrintWords
namespace Go.Proofs.YtpfnnamicbbobaaW.PrintLast
section
variable {ops : Array Oper} {a : Act} {o og : Oper} {g : Nat} {t : Tmp} {u : Bool}
end
end Go.Proofs.YtpfnnamicbbobaaW.PrintLast
