-- What a program of the kit printed for this seat, without what this claim does not use (struck by wip/tools/prune.py).
import Derived.Test.YtaogejkmkalnlaaWInv
import Derived.Test.YtaogejkmkalnlaaWFootNe
namespace Go.Proofs.YtaogejkmkalnlaaW.PrintWords
open Go.RowKit
end Go.Proofs.YtaogejkmkalnlaaW.PrintWords
namespace Go.Proofs.YtaogejkmkalnlaaW.PrintLast
section
variable {ops : Array Oper} {a : Act} {o og : Oper} {g : Nat} {t : Tmp} {u : Bool}
end
end Go.Proofs.YtaogejkmkalnlaaW.PrintLast
