-- What a program of the kit printed for this seat, without what this claim does not use (struck by wip/tools/prune.py).
import Derived.Test.YtaogejkmkalnlaaWN
/-! ### 52. A row that stays read whatever happens to a block (a set of blocks) doesn't lie there -/
namespace Go.Proofs.YtaogejkmkalnlaaW.PrintWords
open Go.RowKit
namespace Kd
section
variable {α : Type} {d : Kd α} {W : World} {g n : Nat} {S ok : Nat → Prop} {A : Option Addr} {ad : Addr} {xs : List α}
end
end Kd
end Go.Proofs.YtaogejkmkalnlaaW.PrintWords
