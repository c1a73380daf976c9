-- words for the printed texts (the kit's print, laid by a program)
import Derived.Test.YtcdbnphhoihldaaDoorG3
/-! ### 56. Four, five, six operations that may come up next, in any order -/
namespace Go.Proofs.YtcdbnphhoihldaaDoorW.PrintLast
section
variable {P : Program} {ops : Array Oper} {Q : Exit → Act → World → Prop} {md : Region.Mode} {S : World → Prop} {ds : List Nat} {T : Bool × List (List Nat × List Nat)}
end
end Go.Proofs.YtcdbnphhoihldaaDoorW.PrintLast
