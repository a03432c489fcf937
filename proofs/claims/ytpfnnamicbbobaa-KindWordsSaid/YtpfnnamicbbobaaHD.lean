-- What a program of the kit printed for this seat, without what this claim does not use (struck by wip/tools/prune.py).
/- tontineref18.made: contracts typed by hand, one for each operation. -/
import Derived.Test.YtpfnnamicbbobaaHS
import Derived.Test.YtpfnnamicbbobaaProg
import Derived.Lib.Hide
import Derived.Deep.QuietTactic
import Derived.BigQuiet
namespace Go.Proofs.Ytpfnnamicbbobaa.HD
set_option linter.unusedSimpArgs false
set_option linter.unusedVariables false
open Go.RowKit Go.Proofs.Ytpfnnamicbbobaa.HS
def calcB (x : Int) : Bool := x == 1 || x == 2
def whenS (b : Bool) (t : Int) : Int := if b = true then t else 0
def mul2 (a b : Int) : Int := if (a == 2 && b == 1 || a == 1 && b == 2) = true then 2 else whenS (a == 1 && b == 1) 1
def div2 (a b : Int) : Int := if (a == 2 && b == 1) = true then 2 else whenS (calcB a && b == a) 1
def mostN (a : Int) (l : List Int) : Int := if ((l.drop 1).any fun x => x != a) = true then 0 else whenS (calcB a) a
end Go.Proofs.Ytpfnnamicbbobaa.HD
