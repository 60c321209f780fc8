/-
  No cell of these rows narrows 'for every input' (looked for: loops, veiled, ifaces, maps, wideKeys, modest, calm, conditions, laid).
  DERIVED. THE GIVEN ROWS OF THIS SEAT. 12 by the template 'for every input the law returns true; each argument reads behind the call as it read before'; 0 by the template 'total and deterministic' (their statements: YtabpgiebhgkfhaaTotals.lean).
  GIVEN WITH THE SEED: the statements are not yours to turn. If you find one false, say at which input.
  Laid BY PROGRAM, IN A SANDBOX (cutbox-rows.mjs): the forced cells as the released guide's own fill.sh prints them over the translation 28afc76fcceb46dd… (all of the seat's roots in one cut). By AI agents, Wed Nov 11 2026. No macro, syntax, notation, axiom, sorry.
-/
import Derived.Test.YtabpgiebhgkfhaaChecked
import GoSem.Claim
import GoSem.ClaimJoined
import GoSem.ClaimMapViews
import Derived.JoinedTies
import Derived.KernelRfl
namespace Go.Proofs.Ytabpgiebhgkfhaa
/- THE CELL 'sum', in the pinned program and in every row, IS THE sha256 OF THE DUMP (.gsa) THAT YtabpgiebhgkfhaaProg.lean LOADS. Nothing in Lean hashes anything: it is a label: what it is worth is what the hold of that sum in a sandbox is worth. -/
noncomputable def Try.pinned : Pinned := { name := "ytabpgiebhgkfhaa", sum := "28afc76fcceb46dd20d489dfe71de6a6556edd3ac76518d3226f1e187cbe6510", checked := Try.checked }
namespace Rows
def none {H : Type} : Left H := { results := [], args := [] }

/-- 'laws.FnExactTakeStated': WHATEVER THE INPUT: true; the input reads as it did. -/
def fnExactTakeStatedSpec : ChangeSpec := { name := "fnExactTakeStated", fn := fun _ => fun
  | [d1, d2, d3] => { results := [.lit (.bool true)], args := [d1, d2, d3] }
  | _ => none }
def fnExactTakeStatedRow : OpenClaim := { program := "ytabpgiebhgkfhaa", sum := "28afc76fcceb46dd20d489dfe71de6a6556edd3ac76518d3226f1e187cbe6510", func := "loop.example/g00594/laws.FnExactTakeStated", spec := "fnExactTakeStated", inPlace := ["slices.overlaps[loop.example/g00594/impl.Fact]"], unfollowed := true, recurses := true, apart := false }
def FnExactTakeStatedSaid : Prop := fnExactTakeStatedRow.holds Try.pinned (OpenSpec.ofChange fnExactTakeStatedSpec)

/-- ITS FALSE NEIGHBOUR: 'it returns false'. Refute it at one input. -/
def fnExactTakeStatedWrong : ChangeSpec := { name := "fnExactTakeStated", fn := fun _ => fun
  | [d1, d2, d3] => { results := [.lit (.bool false)], args := [d1, d2, d3] }
  | _ => none }
def FnExactTakeStatedWrongFalsely : Prop := fnExactTakeStatedRow.holds Try.pinned (OpenSpec.ofChange fnExactTakeStatedWrong)

/-- 'laws.FnExactIsIssuer': WHATEVER THE INPUT: true; the input reads as it did. -/
def fnExactIsIssuerSpec : ChangeSpec := { name := "fnExactIsIssuer", fn := fun _ => fun
  | [d] => { results := [.lit (.bool true)], args := [d] }
  | _ => none }
def fnExactIsIssuerRow : OpenClaim := { program := "ytabpgiebhgkfhaa", sum := "28afc76fcceb46dd20d489dfe71de6a6556edd3ac76518d3226f1e187cbe6510", func := "loop.example/g00594/laws.FnExactIsIssuer", spec := "fnExactIsIssuer", apart := false }
def FnExactIsIssuerSaid : Prop := fnExactIsIssuerRow.holds Try.pinned (OpenSpec.ofChange fnExactIsIssuerSpec)

/-- ITS FALSE NEIGHBOUR: 'it returns false'. Refute it at one input. -/
def fnExactIsIssuerWrong : ChangeSpec := { name := "fnExactIsIssuer", fn := fun _ => fun
  | [d] => { results := [.lit (.bool false)], args := [d] }
  | _ => none }
def FnExactIsIssuerWrongFalsely : Prop := fnExactIsIssuerRow.holds Try.pinned (OpenSpec.ofChange fnExactIsIssuerWrong)

/-- 'laws.FnExactLastOf': WHATEVER THE INPUT: true; the input reads as it did. -/
def fnExactLastOfSpec : ChangeSpec := { name := "fnExactLastOf", fn := fun _ => fun
  | [d1, d2] => { results := [.lit (.bool true)], args := [d1, d2] }
  | _ => none }
def fnExactLastOfRow : OpenClaim := { program := "ytabpgiebhgkfhaa", sum := "28afc76fcceb46dd20d489dfe71de6a6556edd3ac76518d3226f1e187cbe6510", func := "loop.example/g00594/laws.FnExactLastOf", spec := "fnExactLastOf", apart := false }
def FnExactLastOfSaid : Prop := fnExactLastOfRow.holds Try.pinned (OpenSpec.ofChange fnExactLastOfSpec)

/-- ITS FALSE NEIGHBOUR: 'it returns false'. Refute it at one input. -/
def fnExactLastOfWrong : ChangeSpec := { name := "fnExactLastOf", fn := fun _ => fun
  | [d1, d2] => { results := [.lit (.bool false)], args := [d1, d2] }
  | _ => none }
def FnExactLastOfWrongFalsely : Prop := fnExactLastOfRow.holds Try.pinned (OpenSpec.ofChange fnExactLastOfWrong)

/-- 'laws.FnExactMarkCert': WHATEVER THE INPUT: true; the input reads as it did. -/
def fnExactMarkCertSpec : ChangeSpec := { name := "fnExactMarkCert", fn := fun _ => fun
  | [d1, d2] => { results := [.lit (.bool true)], args := [d1, d2] }
  | _ => none }
def fnExactMarkCertRow : OpenClaim := { program := "ytabpgiebhgkfhaa", sum := "28afc76fcceb46dd20d489dfe71de6a6556edd3ac76518d3226f1e187cbe6510", func := "loop.example/g00594/laws.FnExactMarkCert", spec := "fnExactMarkCert", apart := false }
def FnExactMarkCertSaid : Prop := fnExactMarkCertRow.holds Try.pinned (OpenSpec.ofChange fnExactMarkCertSpec)

/-- ITS FALSE NEIGHBOUR: 'it returns false'. Refute it at one input. -/
def fnExactMarkCertWrong : ChangeSpec := { name := "fnExactMarkCert", fn := fun _ => fun
  | [d1, d2] => { results := [.lit (.bool false)], args := [d1, d2] }
  | _ => none }
def FnExactMarkCertWrongFalsely : Prop := fnExactMarkCertRow.holds Try.pinned (OpenSpec.ofChange fnExactMarkCertWrong)

/-- 'laws.FnExactFindIssuer': WHATEVER THE INPUT: true; the input reads as it did. -/
def fnExactFindIssuerSpec : ChangeSpec := { name := "fnExactFindIssuer", fn := fun _ => fun
  | [d1, d2] => { results := [.lit (.bool true)], args := [d1, d2] }
  | _ => none }
def fnExactFindIssuerRow : OpenClaim := { program := "ytabpgiebhgkfhaa", sum := "28afc76fcceb46dd20d489dfe71de6a6556edd3ac76518d3226f1e187cbe6510", func := "loop.example/g00594/laws.FnExactFindIssuer", spec := "fnExactFindIssuer", unfollowed := true, recurses := true, apart := false }
def FnExactFindIssuerSaid : Prop := fnExactFindIssuerRow.holds Try.pinned (OpenSpec.ofChange fnExactFindIssuerSpec)

/-- ITS FALSE NEIGHBOUR: 'it returns false'. Refute it at one input. -/
def fnExactFindIssuerWrong : ChangeSpec := { name := "fnExactFindIssuer", fn := fun _ => fun
  | [d1, d2] => { results := [.lit (.bool false)], args := [d1, d2] }
  | _ => none }
def FnExactFindIssuerWrongFalsely : Prop := fnExactFindIssuerRow.holds Try.pinned (OpenSpec.ofChange fnExactFindIssuerWrong)

/-- 'laws.FnExactCheckCert': WHATEVER THE INPUT: true; the input reads as it did. -/
def fnExactCheckCertSpec : ChangeSpec := { name := "fnExactCheckCert", fn := fun _ => fun
  | [d1, d2, d3] => { results := [.lit (.bool true)], args := [d1, d2, d3] }
  | _ => none }
def fnExactCheckCertRow : OpenClaim := { program := "ytabpgiebhgkfhaa", sum := "28afc76fcceb46dd20d489dfe71de6a6556edd3ac76518d3226f1e187cbe6510", func := "loop.example/g00594/laws.FnExactCheckCert", spec := "fnExactCheckCert", apart := false }
def FnExactCheckCertSaid : Prop := fnExactCheckCertRow.holds Try.pinned (OpenSpec.ofChange fnExactCheckCertSpec)

/-- ITS FALSE NEIGHBOUR: 'it returns false'. Refute it at one input. -/
def fnExactCheckCertWrong : ChangeSpec := { name := "fnExactCheckCert", fn := fun _ => fun
  | [d1, d2, d3] => { results := [.lit (.bool false)], args := [d1, d2, d3] }
  | _ => none }
def FnExactCheckCertWrongFalsely : Prop := fnExactCheckCertRow.holds Try.pinned (OpenSpec.ofChange fnExactCheckCertWrong)

/-- 'laws.FnExactHasProved': WHATEVER THE INPUT: true; the input reads as it did. -/
def fnExactHasProvedSpec : ChangeSpec := { name := "fnExactHasProved", fn := fun _ => fun
  | [d1, d2, d3, d4, d5] => { results := [.lit (.bool true)], args := [d1, d2, d3, d4, d5] }
  | _ => none }
def fnExactHasProvedRow : OpenClaim := { program := "ytabpgiebhgkfhaa", sum := "28afc76fcceb46dd20d489dfe71de6a6556edd3ac76518d3226f1e187cbe6510", func := "loop.example/g00594/laws.FnExactHasProved", spec := "fnExactHasProved", apart := false }
def FnExactHasProvedSaid : Prop := fnExactHasProvedRow.holds Try.pinned (OpenSpec.ofChange fnExactHasProvedSpec)

/-- ITS FALSE NEIGHBOUR: 'it returns false'. Refute it at one input. -/
def fnExactHasProvedWrong : ChangeSpec := { name := "fnExactHasProved", fn := fun _ => fun
  | [d1, d2, d3, d4, d5] => { results := [.lit (.bool false)], args := [d1, d2, d3, d4, d5] }
  | _ => none }
def FnExactHasProvedWrongFalsely : Prop := fnExactHasProvedRow.holds Try.pinned (OpenSpec.ofChange fnExactHasProvedWrong)

/-- 'laws.FnExactAreIssuers': WHATEVER THE INPUT: true; the input reads as it did. -/
def fnExactAreIssuersSpec : ChangeSpec := { name := "fnExactAreIssuers", fn := fun _ => fun
  | [d] => { results := [.lit (.bool true)], args := [d] }
  | _ => none }
def fnExactAreIssuersRow : OpenClaim := { program := "ytabpgiebhgkfhaa", sum := "28afc76fcceb46dd20d489dfe71de6a6556edd3ac76518d3226f1e187cbe6510", func := "loop.example/g00594/laws.FnExactAreIssuers", spec := "fnExactAreIssuers", apart := false }
def FnExactAreIssuersSaid : Prop := fnExactAreIssuersRow.holds Try.pinned (OpenSpec.ofChange fnExactAreIssuersSpec)

/-- ITS FALSE NEIGHBOUR: 'it returns false'. Refute it at one input. -/
def fnExactAreIssuersWrong : ChangeSpec := { name := "fnExactAreIssuers", fn := fun _ => fun
  | [d] => { results := [.lit (.bool false)], args := [d] }
  | _ => none }
def FnExactAreIssuersWrongFalsely : Prop := fnExactAreIssuersRow.holds Try.pinned (OpenSpec.ofChange fnExactAreIssuersWrong)

/-- 'laws.FnExactIssueCert': WHATEVER THE INPUT: true; the input reads as it did. -/
def fnExactIssueCertSpec : ChangeSpec := { name := "fnExactIssueCert", fn := fun _ => fun
  | [d1, d2, d3, d4, d5, d6] => { results := [.lit (.bool true)], args := [d1, d2, d3, d4, d5, d6] }
  | _ => none }
def fnExactIssueCertRow : OpenClaim := { program := "ytabpgiebhgkfhaa", sum := "28afc76fcceb46dd20d489dfe71de6a6556edd3ac76518d3226f1e187cbe6510", func := "loop.example/g00594/laws.FnExactIssueCert", spec := "fnExactIssueCert", apart := false }
def FnExactIssueCertSaid : Prop := fnExactIssueCertRow.holds Try.pinned (OpenSpec.ofChange fnExactIssueCertSpec)

/-- ITS FALSE NEIGHBOUR: 'it returns false'. Refute it at one input. -/
def fnExactIssueCertWrong : ChangeSpec := { name := "fnExactIssueCert", fn := fun _ => fun
  | [d1, d2, d3, d4, d5, d6] => { results := [.lit (.bool false)], args := [d1, d2, d3, d4, d5, d6] }
  | _ => none }
def FnExactIssueCertWrongFalsely : Prop := fnExactIssueCertRow.holds Try.pinned (OpenSpec.ofChange fnExactIssueCertWrong)

/-- 'laws.FnExactStateFact': WHATEVER THE INPUT: true; the input reads as it did. -/
def fnExactStateFactSpec : ChangeSpec := { name := "fnExactStateFact", fn := fun _ => fun
  | [d1, d2] => { results := [.lit (.bool true)], args := [d1, d2] }
  | _ => none }
def fnExactStateFactRow : OpenClaim := { program := "ytabpgiebhgkfhaa", sum := "28afc76fcceb46dd20d489dfe71de6a6556edd3ac76518d3226f1e187cbe6510", func := "loop.example/g00594/laws.FnExactStateFact", spec := "fnExactStateFact", apart := false }
def FnExactStateFactSaid : Prop := fnExactStateFactRow.holds Try.pinned (OpenSpec.ofChange fnExactStateFactSpec)

/-- ITS FALSE NEIGHBOUR: 'it returns false'. Refute it at one input. -/
def fnExactStateFactWrong : ChangeSpec := { name := "fnExactStateFact", fn := fun _ => fun
  | [d1, d2] => { results := [.lit (.bool false)], args := [d1, d2] }
  | _ => none }
def FnExactStateFactWrongFalsely : Prop := fnExactStateFactRow.holds Try.pinned (OpenSpec.ofChange fnExactStateFactWrong)

/-- 'laws.FnExactIsBelieved': WHATEVER THE INPUT: true; the input reads as it did. -/
def fnExactIsBelievedSpec : ChangeSpec := { name := "fnExactIsBelieved", fn := fun _ => fun
  | [d1, d2] => { results := [.lit (.bool true)], args := [d1, d2] }
  | _ => none }
def fnExactIsBelievedRow : OpenClaim := { program := "ytabpgiebhgkfhaa", sum := "28afc76fcceb46dd20d489dfe71de6a6556edd3ac76518d3226f1e187cbe6510", func := "loop.example/g00594/laws.FnExactIsBelieved", spec := "fnExactIsBelieved", unfollowed := true, recurses := true, apart := false }
def FnExactIsBelievedSaid : Prop := fnExactIsBelievedRow.holds Try.pinned (OpenSpec.ofChange fnExactIsBelievedSpec)

/-- ITS FALSE NEIGHBOUR: 'it returns false'. Refute it at one input. -/
def fnExactIsBelievedWrong : ChangeSpec := { name := "fnExactIsBelieved", fn := fun _ => fun
  | [d1, d2] => { results := [.lit (.bool false)], args := [d1, d2] }
  | _ => none }
def FnExactIsBelievedWrongFalsely : Prop := fnExactIsBelievedRow.holds Try.pinned (OpenSpec.ofChange fnExactIsBelievedWrong)

/-- 'laws.FnIssuers': WHATEVER THE INPUT: true; the input reads as it did. -/
def fnIssuersSpec : ChangeSpec := { name := "fnIssuers", fn := fun _ => fun
  | [d] => { results := [.lit (.bool true)], args := [d] }
  | _ => none }
def fnIssuersRow : OpenClaim := { program := "ytabpgiebhgkfhaa", sum := "28afc76fcceb46dd20d489dfe71de6a6556edd3ac76518d3226f1e187cbe6510", func := "loop.example/g00594/laws.FnIssuers", spec := "fnIssuers", inPlace := ["slices.overlaps[loop.example/g00594/impl.Fact]"], unfollowed := true, recurses := true, apart := false }
def FnIssuersSaid : Prop := fnIssuersRow.holds Try.pinned (OpenSpec.ofChange fnIssuersSpec)

/-- ITS FALSE NEIGHBOUR: 'it returns false'. Refute it at one input. -/
def fnIssuersWrong : ChangeSpec := { name := "fnIssuers", fn := fun _ => fun
  | [d] => { results := [.lit (.bool false)], args := [d] }
  | _ => none }
def FnIssuersWrongFalsely : Prop := fnIssuersRow.holds Try.pinned (OpenSpec.ofChange fnIssuersWrong)

/- THE SECOND FORM. 'bulk': how many values and letters a reading holds, each counted each time it is reached (what is shared counts as often as it is met; a slice's spare places count too). A statement '..UptoSaid' is the law's where the arguments, and the package variables that the reading takes, are together of bulk at most 1048576: NARROWER than '..Said'. Prove '..Said' where nothing that the law and all that it calls make is longer than what came in: it says more and counts as full. Else prove '..UptoSaid'. A law counts once. -/
mutual
def uptoBulk {H : Type} : DataW H → Nat
  | .lit (.string bytes) => bytes.length + 1
  | .lit _ => 1
  | .nil => 1
  | .ptr d => uptoBulk d + 1
  | .slice elems spare => uptoBulkAll elems + uptoBulkAll spare + 1
  | .agg parts => uptoBulkAll parts + 1
  | .iface _ d => uptoBulk d + 1
  | .map entries => uptoBulkEntries entries + 1
  | .held _ => 1
def uptoBulkAll {H : Type} : List (DataW H) → Nat
  | [] => 0
  | d :: r => uptoBulk d + uptoBulkAll r
def uptoBulkEntries {H : Type} : List (Lit × DataW H) → Nat
  | [] => 0
  | x :: r => uptoBulkEntry x + uptoBulkEntries r
def uptoBulkEntry {H : Type} : Lit × DataW H → Nat
  | (.string bytes, d) => bytes.length + uptoBulk d + 1
  | (_, d) => uptoBulk d + 1
 end
def uptoSmall : (H : Type) → List (DataW H) → Bool := fun _ ds => decide (uptoBulkAll ds ≤ 1048576)
def OpenSpec.upto (s : _root_.Go.ChangeSpec) : _root_.Go.OpenSpec := { _root_.Go.OpenSpec.ofChange s with cond := some uptoSmall }

/-- 'laws.FnExactTakeStated', WHERE WHAT IT READS IS OF BULK AT MOST 1048576: true; the input reads as it did. -/
def fnExactTakeStatedUptoRow : OpenClaim := { program := "ytabpgiebhgkfhaa", sum := "28afc76fcceb46dd20d489dfe71de6a6556edd3ac76518d3226f1e187cbe6510", func := "loop.example/g00594/laws.FnExactTakeStated", spec := "fnExactTakeStated", inPlace := ["slices.overlaps[loop.example/g00594/impl.Fact]"], unfollowed := true, recurses := true, apart := false, narrowed := true }
def FnExactTakeStatedUptoSaid : Prop := fnExactTakeStatedUptoRow.holds Try.pinned (OpenSpec.upto fnExactTakeStatedSpec)

/-- 'laws.FnExactIsIssuer', WHERE WHAT IT READS IS OF BULK AT MOST 1048576: true; the input reads as it did. -/
def fnExactIsIssuerUptoRow : OpenClaim := { program := "ytabpgiebhgkfhaa", sum := "28afc76fcceb46dd20d489dfe71de6a6556edd3ac76518d3226f1e187cbe6510", func := "loop.example/g00594/laws.FnExactIsIssuer", spec := "fnExactIsIssuer", apart := false, narrowed := true }
def FnExactIsIssuerUptoSaid : Prop := fnExactIsIssuerUptoRow.holds Try.pinned (OpenSpec.upto fnExactIsIssuerSpec)

/-- 'laws.FnExactLastOf', WHERE WHAT IT READS IS OF BULK AT MOST 1048576: true; the input reads as it did. -/
def fnExactLastOfUptoRow : OpenClaim := { program := "ytabpgiebhgkfhaa", sum := "28afc76fcceb46dd20d489dfe71de6a6556edd3ac76518d3226f1e187cbe6510", func := "loop.example/g00594/laws.FnExactLastOf", spec := "fnExactLastOf", apart := false, narrowed := true }
def FnExactLastOfUptoSaid : Prop := fnExactLastOfUptoRow.holds Try.pinned (OpenSpec.upto fnExactLastOfSpec)

/-- 'laws.FnExactMarkCert', WHERE WHAT IT READS IS OF BULK AT MOST 1048576: true; the input reads as it did. -/
def fnExactMarkCertUptoRow : OpenClaim := { program := "ytabpgiebhgkfhaa", sum := "28afc76fcceb46dd20d489dfe71de6a6556edd3ac76518d3226f1e187cbe6510", func := "loop.example/g00594/laws.FnExactMarkCert", spec := "fnExactMarkCert", apart := false, narrowed := true }
def FnExactMarkCertUptoSaid : Prop := fnExactMarkCertUptoRow.holds Try.pinned (OpenSpec.upto fnExactMarkCertSpec)

/-- 'laws.FnExactFindIssuer', WHERE WHAT IT READS IS OF BULK AT MOST 1048576: true; the input reads as it did. -/
def fnExactFindIssuerUptoRow : OpenClaim := { program := "ytabpgiebhgkfhaa", sum := "28afc76fcceb46dd20d489dfe71de6a6556edd3ac76518d3226f1e187cbe6510", func := "loop.example/g00594/laws.FnExactFindIssuer", spec := "fnExactFindIssuer", unfollowed := true, recurses := true, apart := false, narrowed := true }
def FnExactFindIssuerUptoSaid : Prop := fnExactFindIssuerUptoRow.holds Try.pinned (OpenSpec.upto fnExactFindIssuerSpec)

/-- 'laws.FnExactCheckCert', WHERE WHAT IT READS IS OF BULK AT MOST 1048576: true; the input reads as it did. -/
def fnExactCheckCertUptoRow : OpenClaim := { program := "ytabpgiebhgkfhaa", sum := "28afc76fcceb46dd20d489dfe71de6a6556edd3ac76518d3226f1e187cbe6510", func := "loop.example/g00594/laws.FnExactCheckCert", spec := "fnExactCheckCert", apart := false, narrowed := true }
def FnExactCheckCertUptoSaid : Prop := fnExactCheckCertUptoRow.holds Try.pinned (OpenSpec.upto fnExactCheckCertSpec)

/-- 'laws.FnExactHasProved', WHERE WHAT IT READS IS OF BULK AT MOST 1048576: true; the input reads as it did. -/
def fnExactHasProvedUptoRow : OpenClaim := { program := "ytabpgiebhgkfhaa", sum := "28afc76fcceb46dd20d489dfe71de6a6556edd3ac76518d3226f1e187cbe6510", func := "loop.example/g00594/laws.FnExactHasProved", spec := "fnExactHasProved", apart := false, narrowed := true }
def FnExactHasProvedUptoSaid : Prop := fnExactHasProvedUptoRow.holds Try.pinned (OpenSpec.upto fnExactHasProvedSpec)

/-- 'laws.FnExactAreIssuers', WHERE WHAT IT READS IS OF BULK AT MOST 1048576: true; the input reads as it did. -/
def fnExactAreIssuersUptoRow : OpenClaim := { program := "ytabpgiebhgkfhaa", sum := "28afc76fcceb46dd20d489dfe71de6a6556edd3ac76518d3226f1e187cbe6510", func := "loop.example/g00594/laws.FnExactAreIssuers", spec := "fnExactAreIssuers", apart := false, narrowed := true }
def FnExactAreIssuersUptoSaid : Prop := fnExactAreIssuersUptoRow.holds Try.pinned (OpenSpec.upto fnExactAreIssuersSpec)

/-- 'laws.FnExactIssueCert', WHERE WHAT IT READS IS OF BULK AT MOST 1048576: true; the input reads as it did. -/
def fnExactIssueCertUptoRow : OpenClaim := { program := "ytabpgiebhgkfhaa", sum := "28afc76fcceb46dd20d489dfe71de6a6556edd3ac76518d3226f1e187cbe6510", func := "loop.example/g00594/laws.FnExactIssueCert", spec := "fnExactIssueCert", apart := false, narrowed := true }
def FnExactIssueCertUptoSaid : Prop := fnExactIssueCertUptoRow.holds Try.pinned (OpenSpec.upto fnExactIssueCertSpec)

/-- 'laws.FnExactStateFact', WHERE WHAT IT READS IS OF BULK AT MOST 1048576: true; the input reads as it did. -/
def fnExactStateFactUptoRow : OpenClaim := { program := "ytabpgiebhgkfhaa", sum := "28afc76fcceb46dd20d489dfe71de6a6556edd3ac76518d3226f1e187cbe6510", func := "loop.example/g00594/laws.FnExactStateFact", spec := "fnExactStateFact", apart := false, narrowed := true }
def FnExactStateFactUptoSaid : Prop := fnExactStateFactUptoRow.holds Try.pinned (OpenSpec.upto fnExactStateFactSpec)

/-- 'laws.FnExactIsBelieved', WHERE WHAT IT READS IS OF BULK AT MOST 1048576: true; the input reads as it did. -/
def fnExactIsBelievedUptoRow : OpenClaim := { program := "ytabpgiebhgkfhaa", sum := "28afc76fcceb46dd20d489dfe71de6a6556edd3ac76518d3226f1e187cbe6510", func := "loop.example/g00594/laws.FnExactIsBelieved", spec := "fnExactIsBelieved", unfollowed := true, recurses := true, apart := false, narrowed := true }
def FnExactIsBelievedUptoSaid : Prop := fnExactIsBelievedUptoRow.holds Try.pinned (OpenSpec.upto fnExactIsBelievedSpec)

/-- 'laws.FnIssuers', WHERE WHAT IT READS IS OF BULK AT MOST 1048576: true; the input reads as it did. -/
def fnIssuersUptoRow : OpenClaim := { program := "ytabpgiebhgkfhaa", sum := "28afc76fcceb46dd20d489dfe71de6a6556edd3ac76518d3226f1e187cbe6510", func := "loop.example/g00594/laws.FnIssuers", spec := "fnIssuers", inPlace := ["slices.overlaps[loop.example/g00594/impl.Fact]"], unfollowed := true, recurses := true, apart := false, narrowed := true }
def FnIssuersUptoSaid : Prop := fnIssuersUptoRow.holds Try.pinned (OpenSpec.upto fnIssuersSpec)

end Rows
end Go.Proofs.Ytabpgiebhgkfhaa
