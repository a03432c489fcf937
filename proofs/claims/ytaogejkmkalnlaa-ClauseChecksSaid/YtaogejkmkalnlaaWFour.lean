-- What a program of the kit printed for this seat, without what this claim does not use (struck by wip/tools/prune.py).
import Derived.Test.YtaogejkmkalnlaaWTab
/-! ### 56. Four, five, six operations that may come up next, in any order -/
namespace Go.Proofs.YtaogejkmkalnlaaW.PrintLast
section
variable {P : Program} {ops : Array Oper} {Q : Exit → Act → World → Prop} {md : Region.Mode} {S : World → Prop} {ds : List Nat} {T : Bool × List (List Nat × List Nat)}
end
end Go.Proofs.YtaogejkmkalnlaaW.PrintLast
