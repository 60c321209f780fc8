/- Out of the print's words: what this claim's texts name of them. Conditions: none. -/
import Derived.Test.YtlmhemcpkmjkiaaTFnAppraisalInv
import Derived.Test.YtlmhemcpkmjkiaaTFnAppraisalFootNe
namespace Go.Proofs.YtlmhemcpkmjkiaaW.PrintWords
open Go.RowKit
end Go.Proofs.YtlmhemcpkmjkiaaW.PrintWords
namespace Go.Proofs.YtlmhemcpkmjkiaaW.PrintLast
section
variable {ops : Array Oper} {a : Act} {o og : Oper} {g : Nat} {t : Tmp} {u : Bool}
end
end Go.Proofs.YtlmhemcpkmjkiaaW.PrintLast
