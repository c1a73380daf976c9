-- words for the printed texts (the kit's print, laid by a program)
import Derived.Test.YtcdbnphhoihldaaDoorG2
import Derived.Laws.StructEq
/-! ### 53. '==' of structs as_ one Bool -/
namespace Go.Proofs.YtcdbnphhoihldaaDoorW.PrintWords
open Go.RowKit
section
variable {P : Program} {d : Nat} {xs ys : Array Value} {f : Field} {fs : List Field} {a b : Value} {r s : Bool} {w : World}
end
end Go.Proofs.YtcdbnphhoihldaaDoorW.PrintWords
