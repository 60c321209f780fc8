/- Out of the print's words: what this claim's texts name of them. Conditions: none. -/
import Derived.Test.YtlcmjdkbeckdnaaTFnAgreementInv
import Derived.Test.YtlcmjdkbeckdnaaTFnAgreementFootNe
namespace Go.Proofs.YtlcmjdkbeckdnaaW.PrintWords
open Go.RowKit
end Go.Proofs.YtlcmjdkbeckdnaaW.PrintWords
namespace Go.Proofs.YtlcmjdkbeckdnaaW.PrintLast
section
variable {ops : Array Oper} {a : Act} {o og : Oper} {g : Nat} {t : Tmp} {u : Bool}
end
end Go.Proofs.YtlcmjdkbeckdnaaW.PrintLast
