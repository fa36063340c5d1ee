-- words over rows that may bear a mark (mwords.py)
import Derived.Test.YtaajhdljdmbhhaaGreatDoorWInv
import Derived.Test.YtaajhdljdmbhhaaGreatDoorWFootNe
namespace Go.Proofs.YtaajhdljdmbhhaaGreatDoorW.PrintWords
open Go.RowKit
end Go.Proofs.YtaajhdljdmbhhaaGreatDoorW.PrintWords
namespace Go.Proofs.YtaajhdljdmbhhaaGreatDoorW.PrintLast
section
variable {ops : Array Oper} {a : Act} {o og : Oper} {g : Nat} {t : Tmp} {u : Bool}
end
end Go.Proofs.YtaajhdljdmbhhaaGreatDoorW.PrintLast
