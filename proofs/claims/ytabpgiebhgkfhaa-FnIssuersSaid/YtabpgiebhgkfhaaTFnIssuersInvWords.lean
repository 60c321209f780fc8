/- Out of the print's words: what this claim's texts name of them. Conditions: none. -/
import Derived.Test.YtabpgiebhgkfhaaTFnIssuersInv
import Derived.Test.YtabpgiebhgkfhaaTFnIssuersFootNe
namespace Go.Proofs.YtabpgiebhgkfhaaW.PrintWords
open Go.RowKit
end Go.Proofs.YtabpgiebhgkfhaaW.PrintWords
namespace Go.Proofs.YtabpgiebhgkfhaaW.PrintLast
section
variable {ops : Array Oper} {a : Act} {o og : Oper} {g : Nat} {t : Tmp} {u : Bool}
end
end Go.Proofs.YtabpgiebhgkfhaaW.PrintLast
