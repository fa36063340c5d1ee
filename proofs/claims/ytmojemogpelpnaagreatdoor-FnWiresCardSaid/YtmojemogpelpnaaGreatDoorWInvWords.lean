import Derived.Test.YtmojemogpelpnaaGreatDoorWInv
import Derived.Test.YtmojemogpelpnaaGreatDoorWFootNe
namespace Go.Proofs.YtmojemogpelpnaaGreatDoorW.PrintWords
open Go.RowKit
end Go.Proofs.YtmojemogpelpnaaGreatDoorW.PrintWords
namespace Go.Proofs.YtmojemogpelpnaaGreatDoorW.PrintLast
section
variable{ops:Array Oper}{a:Act}{o og:Oper}{g:Nat}{t:Tmp}{u:Bool}
end
end Go.Proofs.YtmojemogpelpnaaGreatDoorW.PrintLast
