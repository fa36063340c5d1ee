-- words over rows that may bear a mark (mwords.py)
import Derived.Test.YtfncjddolbghlaaGreatDoorWInv
import Derived.Test.YtfncjddolbghlaaGreatDoorWFootNe
namespace Go.Proofs.YtfncjddolbghlaaGreatDoorW.PrintWords
open Go.RowKit
end Go.Proofs.YtfncjddolbghlaaGreatDoorW.PrintWords
namespace Go.Proofs.YtfncjddolbghlaaGreatDoorW.PrintLast
section
variable {ops : Array Oper} {a : Act} {o og : Oper} {g : Nat} {t : Tmp} {u : Bool}
end
end Go.Proofs.YtfncjddolbghlaaGreatDoorW.PrintLast
