-- words over rows that may bear a mark (mwords.py)
import Derived.Test.YtgfpiijpgpkoiabDoorWInv
import Derived.Test.YtgfpiijpgpkoiabDoorWFootNe
namespace Go.Proofs.YtgfpiijpgpkoiabDoorW.PrintWords
open Go.RowKit
end Go.Proofs.YtgfpiijpgpkoiabDoorW.PrintWords
namespace Go.Proofs.YtgfpiijpgpkoiabDoorW.PrintLast
section
variable {ops : Array Oper} {a : Act} {o og : Oper} {g : Nat} {t : Tmp} {u : Bool}
end
end Go.Proofs.YtgfpiijpgpkoiabDoorW.PrintLast
