-- words over rows that may bear a mark (mwords.py)
import Derived.Test.YtaajhdljdmbhhaaGreatDoorWWords
import Derived.Laws.StructEq
/-! ### 53. '==' of structs as_ one Bool -/
namespace Go.Proofs.YtaajhdljdmbhhaaGreatDoorW.PrintWords
open Go.RowKit
section
variable {P : Program} {d : Nat} {xs ys : Array Value} {f : Field} {fs : List Field} {a b : Value} {r s : Bool} {w : World}
end
end Go.Proofs.YtaajhdljdmbhhaaGreatDoorW.PrintWords
