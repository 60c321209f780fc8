/- Out of the print's words: what this claim's texts name of them. Conditions: none. -/
import Derived.Test.YtgmgoabohppkeaaTFnRolesInv
import Derived.Test.YtgmgoabohppkeaaTFnRolesFootNe
namespace Go.Proofs.YtgmgoabohppkeaaW.PrintWords
open Go.RowKit
end Go.Proofs.YtgmgoabohppkeaaW.PrintWords
namespace Go.Proofs.YtgmgoabohppkeaaW.PrintLast
section
variable {ops : Array Oper} {a : Act} {o og : Oper} {g : Nat} {t : Tmp} {u : Bool}
end
end Go.Proofs.YtgmgoabohppkeaaW.PrintLast
