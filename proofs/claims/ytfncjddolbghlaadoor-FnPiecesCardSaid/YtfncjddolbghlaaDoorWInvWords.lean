-- words over rows that may bear a mark (mwords.py)
import Derived.Test.YtfncjddolbghlaaDoorWInv
import Derived.Test.YtfncjddolbghlaaDoorWFootNe
namespace Go.Proofs.YtfncjddolbghlaaDoorW.PrintWords
open Go.RowKit
end Go.Proofs.YtfncjddolbghlaaDoorW.PrintWords
namespace Go.Proofs.YtfncjddolbghlaaDoorW.PrintLast
section
variable {ops : Array Oper} {a : Act} {o og : Oper} {g : Nat} {t : Tmp} {u : Bool}
end
end Go.Proofs.YtfncjddolbghlaaDoorW.PrintLast
