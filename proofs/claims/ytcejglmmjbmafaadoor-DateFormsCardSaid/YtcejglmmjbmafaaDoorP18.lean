-- words for the printed texts (the kit's print, laid by a program)
import Derived.Test.YtcejglmmjbmafaaDoorP17
import Derived.Test.YtcejglmmjbmafaaDoorP13
namespace Go.Proofs.YtcejglmmjbmafaaDoorW.PrintWords
open Go.RowKit
end Go.Proofs.YtcejglmmjbmafaaDoorW.PrintWords
namespace Go.Proofs.YtcejglmmjbmafaaDoorW.PrintLast
section
variable {ops : Array Oper} {a : Act} {o og : Oper} {g : Nat} {t : Tmp} {u : Bool}
end
end Go.Proofs.YtcejglmmjbmafaaDoorW.PrintLast
