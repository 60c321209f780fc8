/-
  No cell of these rows narrows 'for every input' (looked for: loops, veiled, ifaces, maps, wideKeys, modest, calm, conditions, laid).
  DERIVED. THE GIVEN ROWS OF THIS SEAT. 12 by the template 'for every input the law returns true; each argument reads behind the call as it read before'; 0 by the template 'total and deterministic' (their statements: YtlmhemcpkmjkiaaTotals.lean).
  GIVEN WITH THE SEED: the statements are not yours to turn. If you find one false, say at which input.
  Laid BY PROGRAM, IN A SANDBOX (cutbox-rows.mjs): the forced cells as the released guide's own fill.sh prints them over the translation 171918f8d844ff8d… (all of the seat's roots in one cut). By AI agents, Wed Nov 11 2026. No macro, syntax, notation, axiom, sorry.
-/
import Derived.Test.YtlmhemcpkmjkiaaChecked
import GoSem.Claim
import GoSem.ClaimJoined
import GoSem.ClaimMapViews
import Derived.JoinedTies
import Derived.KernelRfl
namespace Go.Proofs.Ytlmhemcpkmjkiaa
/- THE CELL 'sum', in the pinned program and in every row, IS THE sha256 OF THE DUMP (.gsa) THAT YtlmhemcpkmjkiaaProg.lean LOADS. Nothing in Lean hashes anything: it is a label: what it is worth is what the hold of that sum in a sandbox is worth. -/
noncomputable def Try.pinned : Pinned := { name := "ytlmhemcpkmjkiaa", sum := "171918f8d844ff8d393dacba38febd1967b6f314e76a755a611d8e1c1330ddf3", checked := Try.checked }
namespace Rows
def none {H : Type} : Left H := { results := [], args := [] }

/-- 'laws.FnExactKnowsMore': WHATEVER THE INPUT: true; the input reads as it did. -/
def fnExactKnowsMoreSpec : ChangeSpec := { name := "fnExactKnowsMore", fn := fun _ => fun
  | [d1, d2] => { results := [.lit (.bool true)], args := [d1, d2] }
  | _ => none }
def fnExactKnowsMoreRow : OpenClaim := { program := "ytlmhemcpkmjkiaa", sum := "171918f8d844ff8d393dacba38febd1967b6f314e76a755a611d8e1c1330ddf3", func := "loop.example/g00594/laws.FnExactKnowsMore", spec := "fnExactKnowsMore", unfollowed := true, recurses := true, apart := false }
def FnExactKnowsMoreSaid : Prop := fnExactKnowsMoreRow.holds Try.pinned (OpenSpec.ofChange fnExactKnowsMoreSpec)

/-- ITS FALSE NEIGHBOUR: 'it returns false'. Refute it at one input. -/
def fnExactKnowsMoreWrong : ChangeSpec := { name := "fnExactKnowsMore", fn := fun _ => fun
  | [d1, d2] => { results := [.lit (.bool false)], args := [d1, d2] }
  | _ => none }
def FnExactKnowsMoreWrongFalsely : Prop := fnExactKnowsMoreRow.holds Try.pinned (OpenSpec.ofChange fnExactKnowsMoreWrong)

/-- 'laws.FnExactAppraiseOne': WHATEVER THE INPUT: true; the input reads as it did. -/
def fnExactAppraiseOneSpec : ChangeSpec := { name := "fnExactAppraiseOne", fn := fun _ => fun
  | [d1, d2] => { results := [.lit (.bool true)], args := [d1, d2] }
  | _ => none }
def fnExactAppraiseOneRow : OpenClaim := { program := "ytlmhemcpkmjkiaa", sum := "171918f8d844ff8d393dacba38febd1967b6f314e76a755a611d8e1c1330ddf3", func := "loop.example/g00594/laws.FnExactAppraiseOne", spec := "fnExactAppraiseOne", apart := false }
def FnExactAppraiseOneSaid : Prop := fnExactAppraiseOneRow.holds Try.pinned (OpenSpec.ofChange fnExactAppraiseOneSpec)

/-- ITS FALSE NEIGHBOUR: 'it returns false'. Refute it at one input. -/
def fnExactAppraiseOneWrong : ChangeSpec := { name := "fnExactAppraiseOne", fn := fun _ => fun
  | [d1, d2] => { results := [.lit (.bool false)], args := [d1, d2] }
  | _ => none }
def FnExactAppraiseOneWrongFalsely : Prop := fnExactAppraiseOneRow.holds Try.pinned (OpenSpec.ofChange fnExactAppraiseOneWrong)

/-- 'laws.FnExactIsStricter': WHATEVER THE INPUT: true; the input reads as it did. -/
def fnExactIsStricterSpec : ChangeSpec := { name := "fnExactIsStricter", fn := fun _ => fun
  | [d1, d2] => { results := [.lit (.bool true)], args := [d1, d2] }
  | _ => none }
def fnExactIsStricterRow : OpenClaim := { program := "ytlmhemcpkmjkiaa", sum := "171918f8d844ff8d393dacba38febd1967b6f314e76a755a611d8e1c1330ddf3", func := "loop.example/g00594/laws.FnExactIsStricter", spec := "fnExactIsStricter", apart := false }
def FnExactIsStricterSaid : Prop := fnExactIsStricterRow.holds Try.pinned (OpenSpec.ofChange fnExactIsStricterSpec)

/-- ITS FALSE NEIGHBOUR: 'it returns false'. Refute it at one input. -/
def fnExactIsStricterWrong : ChangeSpec := { name := "fnExactIsStricter", fn := fun _ => fun
  | [d1, d2] => { results := [.lit (.bool false)], args := [d1, d2] }
  | _ => none }
def FnExactIsStricterWrongFalsely : Prop := fnExactIsStricterRow.holds Try.pinned (OpenSpec.ofChange fnExactIsStricterWrong)

/-- 'laws.FnExactAppraiseLog': WHATEVER THE INPUT: true; the input reads as it did. -/
def fnExactAppraiseLogSpec : ChangeSpec := { name := "fnExactAppraiseLog", fn := fun _ => fun
  | [d1, d2] => { results := [.lit (.bool true)], args := [d1, d2] }
  | _ => none }
def fnExactAppraiseLogRow : OpenClaim := { program := "ytlmhemcpkmjkiaa", sum := "171918f8d844ff8d393dacba38febd1967b6f314e76a755a611d8e1c1330ddf3", func := "loop.example/g00594/laws.FnExactAppraiseLog", spec := "fnExactAppraiseLog", apart := false }
def FnExactAppraiseLogSaid : Prop := fnExactAppraiseLogRow.holds Try.pinned (OpenSpec.ofChange fnExactAppraiseLogSpec)

/-- ITS FALSE NEIGHBOUR: 'it returns false'. Refute it at one input. -/
def fnExactAppraiseLogWrong : ChangeSpec := { name := "fnExactAppraiseLog", fn := fun _ => fun
  | [d1, d2] => { results := [.lit (.bool false)], args := [d1, d2] }
  | _ => none }
def FnExactAppraiseLogWrongFalsely : Prop := fnExactAppraiseLogRow.holds Try.pinned (OpenSpec.ofChange fnExactAppraiseLogWrong)

/-- 'laws.FnExactIsAllowed': WHATEVER THE INPUT: true; the input reads as it did. -/
def fnExactIsAllowedSpec : ChangeSpec := { name := "fnExactIsAllowed", fn := fun _ => fun
  | [d] => { results := [.lit (.bool true)], args := [d] }
  | _ => none }
def fnExactIsAllowedRow : OpenClaim := { program := "ytlmhemcpkmjkiaa", sum := "171918f8d844ff8d393dacba38febd1967b6f314e76a755a611d8e1c1330ddf3", func := "loop.example/g00594/laws.FnExactIsAllowed", spec := "fnExactIsAllowed", unfollowed := true, recurses := true, apart := false }
def FnExactIsAllowedSaid : Prop := fnExactIsAllowedRow.holds Try.pinned (OpenSpec.ofChange fnExactIsAllowedSpec)

/-- ITS FALSE NEIGHBOUR: 'it returns false'. Refute it at one input. -/
def fnExactIsAllowedWrong : ChangeSpec := { name := "fnExactIsAllowed", fn := fun _ => fun
  | [d] => { results := [.lit (.bool false)], args := [d] }
  | _ => none }
def FnExactIsAllowedWrongFalsely : Prop := fnExactIsAllowedRow.holds Try.pinned (OpenSpec.ofChange fnExactIsAllowedWrong)

/-- 'laws.FnExactMakeQuote': WHATEVER THE INPUT: true; the input reads as it did. -/
def fnExactMakeQuoteSpec : ChangeSpec := { name := "fnExactMakeQuote", fn := fun _ => fun
  | [d1, d2, d3, d4, d5] => { results := [.lit (.bool true)], args := [d1, d2, d3, d4, d5] }
  | _ => none }
def fnExactMakeQuoteRow : OpenClaim := { program := "ytlmhemcpkmjkiaa", sum := "171918f8d844ff8d393dacba38febd1967b6f314e76a755a611d8e1c1330ddf3", func := "loop.example/g00594/laws.FnExactMakeQuote", spec := "fnExactMakeQuote", unfollowed := true, recurses := true, apart := false }
def FnExactMakeQuoteSaid : Prop := fnExactMakeQuoteRow.holds Try.pinned (OpenSpec.ofChange fnExactMakeQuoteSpec)

/-- ITS FALSE NEIGHBOUR: 'it returns false'. Refute it at one input. -/
def fnExactMakeQuoteWrong : ChangeSpec := { name := "fnExactMakeQuote", fn := fun _ => fun
  | [d1, d2, d3, d4, d5] => { results := [.lit (.bool false)], args := [d1, d2, d3, d4, d5] }
  | _ => none }
def FnExactMakeQuoteWrongFalsely : Prop := fnExactMakeQuoteRow.holds Try.pinned (OpenSpec.ofChange fnExactMakeQuoteWrong)

/-- 'laws.FnExactCheckQuote': WHATEVER THE INPUT: true; the input reads as it did. -/
def fnExactCheckQuoteSpec : ChangeSpec := { name := "fnExactCheckQuote", fn := fun _ => fun
  | [d1, d2, d3, d4, d5, d6] => { results := [.lit (.bool true)], args := [d1, d2, d3, d4, d5, d6] }
  | _ => none }
def fnExactCheckQuoteRow : OpenClaim := { program := "ytlmhemcpkmjkiaa", sum := "171918f8d844ff8d393dacba38febd1967b6f314e76a755a611d8e1c1330ddf3", func := "loop.example/g00594/laws.FnExactCheckQuote", spec := "fnExactCheckQuote", unfollowed := true, recurses := true, apart := false }
def FnExactCheckQuoteSaid : Prop := fnExactCheckQuoteRow.holds Try.pinned (OpenSpec.ofChange fnExactCheckQuoteSpec)

/-- ITS FALSE NEIGHBOUR: 'it returns false'. Refute it at one input. -/
def fnExactCheckQuoteWrong : ChangeSpec := { name := "fnExactCheckQuote", fn := fun _ => fun
  | [d1, d2, d3, d4, d5, d6] => { results := [.lit (.bool false)], args := [d1, d2, d3, d4, d5, d6] }
  | _ => none }
def FnExactCheckQuoteWrongFalsely : Prop := fnExactCheckQuoteRow.holds Try.pinned (OpenSpec.ofChange fnExactCheckQuoteWrong)

/-- 'laws.FnExactReplaceAllowed': WHATEVER THE INPUT: true; the input reads as it did. -/
def fnExactReplaceAllowedSpec : ChangeSpec := { name := "fnExactReplaceAllowed", fn := fun _ => fun
  | [d1, d2] => { results := [.lit (.bool true)], args := [d1, d2] }
  | _ => none }
def fnExactReplaceAllowedRow : OpenClaim := { program := "ytlmhemcpkmjkiaa", sum := "171918f8d844ff8d393dacba38febd1967b6f314e76a755a611d8e1c1330ddf3", func := "loop.example/g00594/laws.FnExactReplaceAllowed", spec := "fnExactReplaceAllowed", unfollowed := true, recurses := true, apart := false }
def FnExactReplaceAllowedSaid : Prop := fnExactReplaceAllowedRow.holds Try.pinned (OpenSpec.ofChange fnExactReplaceAllowedSpec)

/-- ITS FALSE NEIGHBOUR: 'it returns false'. Refute it at one input. -/
def fnExactReplaceAllowedWrong : ChangeSpec := { name := "fnExactReplaceAllowed", fn := fun _ => fun
  | [d1, d2] => { results := [.lit (.bool false)], args := [d1, d2] }
  | _ => none }
def FnExactReplaceAllowedWrongFalsely : Prop := fnExactReplaceAllowedRow.holds Try.pinned (OpenSpec.ofChange fnExactReplaceAllowedWrong)

/-- 'laws.FnMeasurements': WHATEVER THE INPUT: true; the input reads as it did. -/
def fnMeasurementsSpec : ChangeSpec := { name := "fnMeasurements", fn := fun _ => fun
  | [d] => { results := [.lit (.bool true)], args := [d] }
  | _ => none }
def fnMeasurementsRow : OpenClaim := { program := "ytlmhemcpkmjkiaa", sum := "171918f8d844ff8d393dacba38febd1967b6f314e76a755a611d8e1c1330ddf3", func := "loop.example/g00594/laws.FnMeasurements", spec := "fnMeasurements", unfollowed := true, recurses := true, apart := false }
def FnMeasurementsSaid : Prop := fnMeasurementsRow.holds Try.pinned (OpenSpec.ofChange fnMeasurementsSpec)

/-- ITS FALSE NEIGHBOUR: 'it returns false'. Refute it at one input. -/
def fnMeasurementsWrong : ChangeSpec := { name := "fnMeasurements", fn := fun _ => fun
  | [d] => { results := [.lit (.bool false)], args := [d] }
  | _ => none }
def FnMeasurementsWrongFalsely : Prop := fnMeasurementsRow.holds Try.pinned (OpenSpec.ofChange fnMeasurementsWrong)

/-- 'laws.FnCertificates': WHATEVER THE INPUT: true; the input reads as it did. -/
def fnCertificatesSpec : ChangeSpec := { name := "fnCertificates", fn := fun _ => fun
  | [d] => { results := [.lit (.bool true)], args := [d] }
  | _ => none }
def fnCertificatesRow : OpenClaim := { program := "ytlmhemcpkmjkiaa", sum := "171918f8d844ff8d393dacba38febd1967b6f314e76a755a611d8e1c1330ddf3", func := "loop.example/g00594/laws.FnCertificates", spec := "fnCertificates", apart := false }
def FnCertificatesSaid : Prop := fnCertificatesRow.holds Try.pinned (OpenSpec.ofChange fnCertificatesSpec)

/-- ITS FALSE NEIGHBOUR: 'it returns false'. Refute it at one input. -/
def fnCertificatesWrong : ChangeSpec := { name := "fnCertificates", fn := fun _ => fun
  | [d] => { results := [.lit (.bool false)], args := [d] }
  | _ => none }
def FnCertificatesWrongFalsely : Prop := fnCertificatesRow.holds Try.pinned (OpenSpec.ofChange fnCertificatesWrong)

/-- 'laws.FnAppraisal': WHATEVER THE INPUT: true; the input reads as it did. -/
def fnAppraisalSpec : ChangeSpec := { name := "fnAppraisal", fn := fun _ => fun
  | [d] => { results := [.lit (.bool true)], args := [d] }
  | _ => none }
def fnAppraisalRow : OpenClaim := { program := "ytlmhemcpkmjkiaa", sum := "171918f8d844ff8d393dacba38febd1967b6f314e76a755a611d8e1c1330ddf3", func := "loop.example/g00594/laws.FnAppraisal", spec := "fnAppraisal", unfollowed := true, recurses := true, apart := false }
def FnAppraisalSaid : Prop := fnAppraisalRow.holds Try.pinned (OpenSpec.ofChange fnAppraisalSpec)

/-- ITS FALSE NEIGHBOUR: 'it returns false'. Refute it at one input. -/
def fnAppraisalWrong : ChangeSpec := { name := "fnAppraisal", fn := fun _ => fun
  | [d] => { results := [.lit (.bool false)], args := [d] }
  | _ => none }
def FnAppraisalWrongFalsely : Prop := fnAppraisalRow.holds Try.pinned (OpenSpec.ofChange fnAppraisalWrong)

/-- 'laws.FnExactHealthFact': WHATEVER THE INPUT: true; the input reads as it did. -/
def fnExactHealthFactSpec : ChangeSpec := { name := "fnExactHealthFact", fn := fun _ => fun
  | [d1, d2, d3, d4, d5, d6, d7] => { results := [.lit (.bool true)], args := [d1, d2, d3, d4, d5, d6, d7] }
  | _ => none }
def fnExactHealthFactRow : OpenClaim := { program := "ytlmhemcpkmjkiaa", sum := "171918f8d844ff8d393dacba38febd1967b6f314e76a755a611d8e1c1330ddf3", func := "loop.example/g00594/laws.FnExactHealthFact", spec := "fnExactHealthFact", unfollowed := true, recurses := true, apart := false }
def FnExactHealthFactSaid : Prop := fnExactHealthFactRow.holds Try.pinned (OpenSpec.ofChange fnExactHealthFactSpec)

/-- ITS FALSE NEIGHBOUR: 'it returns false'. Refute it at one input. -/
def fnExactHealthFactWrong : ChangeSpec := { name := "fnExactHealthFact", fn := fun _ => fun
  | [d1, d2, d3, d4, d5, d6, d7] => { results := [.lit (.bool false)], args := [d1, d2, d3, d4, d5, d6, d7] }
  | _ => none }
def FnExactHealthFactWrongFalsely : Prop := fnExactHealthFactRow.holds Try.pinned (OpenSpec.ofChange fnExactHealthFactWrong)

/- THE SECOND FORM. 'bulk': how many values and letters a reading holds, each counted each time it is reached (what is shared counts as often as it is met; a slice's spare places count too). A statement '..UptoSaid' is the law's where the arguments, and the package variables that the reading takes, are together of bulk at most 1048576: NARROWER than '..Said'. Prove '..Said' where nothing that the law and all that it calls make is longer than what came in: it says more and counts as full. Else prove '..UptoSaid'. A law counts once. -/
mutual
def uptoBulk {H : Type} : DataW H → Nat
  | .lit (.string bytes) => bytes.length + 1
  | .lit _ => 1
  | .nil => 1
  | .ptr d => uptoBulk d + 1
  | .slice elems spare => uptoBulkAll elems + uptoBulkAll spare + 1
  | .agg parts => uptoBulkAll parts + 1
  | .iface _ d => uptoBulk d + 1
  | .map entries => uptoBulkEntries entries + 1
  | .held _ => 1
def uptoBulkAll {H : Type} : List (DataW H) → Nat
  | [] => 0
  | d :: r => uptoBulk d + uptoBulkAll r
def uptoBulkEntries {H : Type} : List (Lit × DataW H) → Nat
  | [] => 0
  | x :: r => uptoBulkEntry x + uptoBulkEntries r
def uptoBulkEntry {H : Type} : Lit × DataW H → Nat
  | (.string bytes, d) => bytes.length + uptoBulk d + 1
  | (_, d) => uptoBulk d + 1
 end
def uptoSmall : (H : Type) → List (DataW H) → Bool := fun _ ds => decide (uptoBulkAll ds ≤ 1048576)
def OpenSpec.upto (s : _root_.Go.ChangeSpec) : _root_.Go.OpenSpec := { _root_.Go.OpenSpec.ofChange s with cond := some uptoSmall }

/-- 'laws.FnExactKnowsMore', WHERE WHAT IT READS IS OF BULK AT MOST 1048576: true; the input reads as it did. -/
def fnExactKnowsMoreUptoRow : OpenClaim := { program := "ytlmhemcpkmjkiaa", sum := "171918f8d844ff8d393dacba38febd1967b6f314e76a755a611d8e1c1330ddf3", func := "loop.example/g00594/laws.FnExactKnowsMore", spec := "fnExactKnowsMore", unfollowed := true, recurses := true, apart := false, narrowed := true }
def FnExactKnowsMoreUptoSaid : Prop := fnExactKnowsMoreUptoRow.holds Try.pinned (OpenSpec.upto fnExactKnowsMoreSpec)

/-- 'laws.FnExactAppraiseOne', WHERE WHAT IT READS IS OF BULK AT MOST 1048576: true; the input reads as it did. -/
def fnExactAppraiseOneUptoRow : OpenClaim := { program := "ytlmhemcpkmjkiaa", sum := "171918f8d844ff8d393dacba38febd1967b6f314e76a755a611d8e1c1330ddf3", func := "loop.example/g00594/laws.FnExactAppraiseOne", spec := "fnExactAppraiseOne", apart := false, narrowed := true }
def FnExactAppraiseOneUptoSaid : Prop := fnExactAppraiseOneUptoRow.holds Try.pinned (OpenSpec.upto fnExactAppraiseOneSpec)

/-- 'laws.FnExactIsStricter', WHERE WHAT IT READS IS OF BULK AT MOST 1048576: true; the input reads as it did. -/
def fnExactIsStricterUptoRow : OpenClaim := { program := "ytlmhemcpkmjkiaa", sum := "171918f8d844ff8d393dacba38febd1967b6f314e76a755a611d8e1c1330ddf3", func := "loop.example/g00594/laws.FnExactIsStricter", spec := "fnExactIsStricter", apart := false, narrowed := true }
def FnExactIsStricterUptoSaid : Prop := fnExactIsStricterUptoRow.holds Try.pinned (OpenSpec.upto fnExactIsStricterSpec)

/-- 'laws.FnExactAppraiseLog', WHERE WHAT IT READS IS OF BULK AT MOST 1048576: true; the input reads as it did. -/
def fnExactAppraiseLogUptoRow : OpenClaim := { program := "ytlmhemcpkmjkiaa", sum := "171918f8d844ff8d393dacba38febd1967b6f314e76a755a611d8e1c1330ddf3", func := "loop.example/g00594/laws.FnExactAppraiseLog", spec := "fnExactAppraiseLog", apart := false, narrowed := true }
def FnExactAppraiseLogUptoSaid : Prop := fnExactAppraiseLogUptoRow.holds Try.pinned (OpenSpec.upto fnExactAppraiseLogSpec)

/-- 'laws.FnExactIsAllowed', WHERE WHAT IT READS IS OF BULK AT MOST 1048576: true; the input reads as it did. -/
def fnExactIsAllowedUptoRow : OpenClaim := { program := "ytlmhemcpkmjkiaa", sum := "171918f8d844ff8d393dacba38febd1967b6f314e76a755a611d8e1c1330ddf3", func := "loop.example/g00594/laws.FnExactIsAllowed", spec := "fnExactIsAllowed", unfollowed := true, recurses := true, apart := false, narrowed := true }
def FnExactIsAllowedUptoSaid : Prop := fnExactIsAllowedUptoRow.holds Try.pinned (OpenSpec.upto fnExactIsAllowedSpec)

/-- 'laws.FnExactMakeQuote', WHERE WHAT IT READS IS OF BULK AT MOST 1048576: true; the input reads as it did. -/
def fnExactMakeQuoteUptoRow : OpenClaim := { program := "ytlmhemcpkmjkiaa", sum := "171918f8d844ff8d393dacba38febd1967b6f314e76a755a611d8e1c1330ddf3", func := "loop.example/g00594/laws.FnExactMakeQuote", spec := "fnExactMakeQuote", unfollowed := true, recurses := true, apart := false, narrowed := true }
def FnExactMakeQuoteUptoSaid : Prop := fnExactMakeQuoteUptoRow.holds Try.pinned (OpenSpec.upto fnExactMakeQuoteSpec)

/-- 'laws.FnExactCheckQuote', WHERE WHAT IT READS IS OF BULK AT MOST 1048576: true; the input reads as it did. -/
def fnExactCheckQuoteUptoRow : OpenClaim := { program := "ytlmhemcpkmjkiaa", sum := "171918f8d844ff8d393dacba38febd1967b6f314e76a755a611d8e1c1330ddf3", func := "loop.example/g00594/laws.FnExactCheckQuote", spec := "fnExactCheckQuote", unfollowed := true, recurses := true, apart := false, narrowed := true }
def FnExactCheckQuoteUptoSaid : Prop := fnExactCheckQuoteUptoRow.holds Try.pinned (OpenSpec.upto fnExactCheckQuoteSpec)

/-- 'laws.FnExactReplaceAllowed', WHERE WHAT IT READS IS OF BULK AT MOST 1048576: true; the input reads as it did. -/
def fnExactReplaceAllowedUptoRow : OpenClaim := { program := "ytlmhemcpkmjkiaa", sum := "171918f8d844ff8d393dacba38febd1967b6f314e76a755a611d8e1c1330ddf3", func := "loop.example/g00594/laws.FnExactReplaceAllowed", spec := "fnExactReplaceAllowed", unfollowed := true, recurses := true, apart := false, narrowed := true }
def FnExactReplaceAllowedUptoSaid : Prop := fnExactReplaceAllowedUptoRow.holds Try.pinned (OpenSpec.upto fnExactReplaceAllowedSpec)

/-- 'laws.FnMeasurements', WHERE WHAT IT READS IS OF BULK AT MOST 1048576: true; the input reads as it did. -/
def fnMeasurementsUptoRow : OpenClaim := { program := "ytlmhemcpkmjkiaa", sum := "171918f8d844ff8d393dacba38febd1967b6f314e76a755a611d8e1c1330ddf3", func := "loop.example/g00594/laws.FnMeasurements", spec := "fnMeasurements", unfollowed := true, recurses := true, apart := false, narrowed := true }
def FnMeasurementsUptoSaid : Prop := fnMeasurementsUptoRow.holds Try.pinned (OpenSpec.upto fnMeasurementsSpec)

/-- 'laws.FnCertificates', WHERE WHAT IT READS IS OF BULK AT MOST 1048576: true; the input reads as it did. -/
def fnCertificatesUptoRow : OpenClaim := { program := "ytlmhemcpkmjkiaa", sum := "171918f8d844ff8d393dacba38febd1967b6f314e76a755a611d8e1c1330ddf3", func := "loop.example/g00594/laws.FnCertificates", spec := "fnCertificates", apart := false, narrowed := true }
def FnCertificatesUptoSaid : Prop := fnCertificatesUptoRow.holds Try.pinned (OpenSpec.upto fnCertificatesSpec)

/-- 'laws.FnAppraisal', WHERE WHAT IT READS IS OF BULK AT MOST 1048576: true; the input reads as it did. -/
def fnAppraisalUptoRow : OpenClaim := { program := "ytlmhemcpkmjkiaa", sum := "171918f8d844ff8d393dacba38febd1967b6f314e76a755a611d8e1c1330ddf3", func := "loop.example/g00594/laws.FnAppraisal", spec := "fnAppraisal", unfollowed := true, recurses := true, apart := false, narrowed := true }
def FnAppraisalUptoSaid : Prop := fnAppraisalUptoRow.holds Try.pinned (OpenSpec.upto fnAppraisalSpec)

/-- 'laws.FnExactHealthFact', WHERE WHAT IT READS IS OF BULK AT MOST 1048576: true; the input reads as it did. -/
def fnExactHealthFactUptoRow : OpenClaim := { program := "ytlmhemcpkmjkiaa", sum := "171918f8d844ff8d393dacba38febd1967b6f314e76a755a611d8e1c1330ddf3", func := "loop.example/g00594/laws.FnExactHealthFact", spec := "fnExactHealthFact", unfollowed := true, recurses := true, apart := false, narrowed := true }
def FnExactHealthFactUptoSaid : Prop := fnExactHealthFactUptoRow.holds Try.pinned (OpenSpec.upto fnExactHealthFactSpec)

end Rows
end Go.Proofs.Ytlmhemcpkmjkiaa
