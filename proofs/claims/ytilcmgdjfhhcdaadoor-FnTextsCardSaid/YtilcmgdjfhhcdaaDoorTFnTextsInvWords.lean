/- Out of the print's words: what this claim's texts name of them. Conditions: none. -/
import Derived.Test.YtilcmgdjfhhcdaaDoorTFnTextsInv
import Derived.Test.YtilcmgdjfhhcdaaDoorTFnTextsFootNe
namespace Go.Proofs.YtilcmgdjfhhcdaaDoorW.PrintWords
open Go.RowKit
end Go.Proofs.YtilcmgdjfhhcdaaDoorW.PrintWords
namespace Go.Proofs.YtilcmgdjfhhcdaaDoorW.PrintLast
section
variable {ops : Array Oper} {a : Act} {o og : Oper} {g : Nat} {t : Tmp} {u : Bool}
end
end Go.Proofs.YtilcmgdjfhhcdaaDoorW.PrintLast
