/- Out of the print's words: what this claim's texts name of them. Conditions: none. -/
import Derived.Test.YthjhenhmjmpkaaaTFnConditionsInv
import Derived.Test.YthjhenhmjmpkaaaTFnConditionsFootNe
namespace Go.Proofs.YthjhenhmjmpkaaaW.PrintWords
open Go.RowKit
end Go.Proofs.YthjhenhmjmpkaaaW.PrintWords
namespace Go.Proofs.YthjhenhmjmpkaaaW.PrintLast
section
variable {ops : Array Oper} {a : Act} {o og : Oper} {g : Nat} {t : Tmp} {u : Bool}
end
end Go.Proofs.YthjhenhmjmpkaaaW.PrintLast
