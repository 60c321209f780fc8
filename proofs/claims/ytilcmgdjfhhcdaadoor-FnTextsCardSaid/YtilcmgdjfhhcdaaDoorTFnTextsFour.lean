/- Out of the print's words: what this claim's texts name of them. Conditions: none. -/
import Derived.Test.YtilcmgdjfhhcdaaDoorTFnTextsTab
/-! ### 56. Four, five, six operations that may come up next, in any order -/
namespace Go.Proofs.YtilcmgdjfhhcdaaDoorW.PrintLast
section
variable {P : Program} {ops : Array Oper} {Q : Exit → Act → World → Prop} {md : Region.Mode} {S : World → Prop} {ds : List Nat} {T : Bool × List (List Nat × List Nat)}
end
end Go.Proofs.YtilcmgdjfhhcdaaDoorW.PrintLast
