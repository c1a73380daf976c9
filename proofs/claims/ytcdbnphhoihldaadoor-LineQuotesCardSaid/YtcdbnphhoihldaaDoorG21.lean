-- words for the printed texts (the kit's print, laid by a program)
import Derived.Test.YtcdbnphhoihldaaDoorG20
import Derived.Test.YtcdbnphhoihldaaDoorG16
namespace Go.Proofs.YtcdbnphhoihldaaDoorW.PrintWords
open Go.RowKit
end Go.Proofs.YtcdbnphhoihldaaDoorW.PrintWords
namespace Go.Proofs.YtcdbnphhoihldaaDoorW.PrintLast
section
variable {ops : Array Oper} {a : Act} {o og : Oper} {g : Nat} {t : Tmp} {u : Bool}
end
end Go.Proofs.YtcdbnphhoihldaaDoorW.PrintLast
