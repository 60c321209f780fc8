/-
  No cell of these rows narrows 'for every input' (looked for: loops, veiled, ifaces, maps, wideKeys, modest, calm, conditions, laid).
  DERIVED. THE GIVEN ROWS OF THIS SEAT. 11 by the template 'for every input the law returns true; each argument reads behind the call as it read before'; 0 by the template 'total and deterministic' (their statements: YtbhjkheedhlelaaTotals.lean).
  GIVEN WITH THE SEED: the statements are not yours to turn. If you find one false, say at which input.
  Laid BY PROGRAM, IN A SANDBOX (cutbox-rows.mjs): the forced cells as the released guide's own fill.sh prints them over the translation f9073e80af4538cc… (all of the seat's roots in one cut). By AI agents, Wed Nov 11 2026. No macro, syntax, notation, axiom, sorry.
-/
import Derived.Test.YtbhjkheedhlelaaChecked
import GoSem.Claim
import GoSem.ClaimJoined
import GoSem.ClaimMapViews
import Derived.JoinedTies
import Derived.KernelRfl
namespace Go.Proofs.Ytbhjkheedhlelaa
/- THE CELL 'sum', in the pinned program and in every row, IS THE sha256 OF THE DUMP (.gsa) THAT YtbhjkheedhlelaaProg.lean LOADS. Nothing in Lean hashes anything: it is a label: what it is worth is what the hold of that sum in a sandbox is worth. -/
noncomputable def Try.pinned : Pinned := { name := "ytbhjkheedhlelaa", sum := "f9073e80af4538cc61c572a910bc00c5ea47062af82891e0f1d79f7a3126318a", checked := Try.checked }
namespace Rows
def none {H : Type} : Left H := { results := [], args := [] }

/-- 'laws.FnExactArityOf': WHATEVER THE INPUT: true; the input reads as it did. -/
def fnExactArityOfSpec : ChangeSpec := { name := "fnExactArityOf", fn := fun _ => fun
  | [d] => { results := [.lit (.bool true)], args := [d] }
  | _ => none }
def fnExactArityOfRow : OpenClaim := { program := "ytbhjkheedhlelaa", sum := "f9073e80af4538cc61c572a910bc00c5ea47062af82891e0f1d79f7a3126318a", func := "loop.example/g00594/laws.FnExactArityOf", spec := "fnExactArityOf", apart := false }
def FnExactArityOfSaid : Prop := fnExactArityOfRow.holds Try.pinned (OpenSpec.ofChange fnExactArityOfSpec)

/-- ITS FALSE NEIGHBOUR: 'it returns false'. Refute it at one input. -/
def fnExactArityOfWrong : ChangeSpec := { name := "fnExactArityOf", fn := fun _ => fun
  | [d] => { results := [.lit (.bool false)], args := [d] }
  | _ => none }
def FnExactArityOfWrongFalsely : Prop := fnExactArityOfRow.holds Try.pinned (OpenSpec.ofChange fnExactArityOfWrong)

/-- 'laws.FnExactIsCert': WHATEVER THE INPUT: true; the input reads as it did. -/
def fnExactIsCertSpec : ChangeSpec := { name := "fnExactIsCert", fn := fun _ => fun
  | [d] => { results := [.lit (.bool true)], args := [d] }
  | _ => none }
def fnExactIsCertRow : OpenClaim := { program := "ytbhjkheedhlelaa", sum := "f9073e80af4538cc61c572a910bc00c5ea47062af82891e0f1d79f7a3126318a", func := "loop.example/g00594/laws.FnExactIsCert", spec := "fnExactIsCert", apart := false }
def FnExactIsCertSaid : Prop := fnExactIsCertRow.holds Try.pinned (OpenSpec.ofChange fnExactIsCertSpec)

/-- ITS FALSE NEIGHBOUR: 'it returns false'. Refute it at one input. -/
def fnExactIsCertWrong : ChangeSpec := { name := "fnExactIsCert", fn := fun _ => fun
  | [d] => { results := [.lit (.bool false)], args := [d] }
  | _ => none }
def FnExactIsCertWrongFalsely : Prop := fnExactIsCertRow.holds Try.pinned (OpenSpec.ofChange fnExactIsCertWrong)

/-- 'laws.FnExactExtendRegister': WHATEVER THE INPUT: true; the input reads as it did. -/
def fnExactExtendRegisterSpec : ChangeSpec := { name := "fnExactExtendRegister", fn := fun _ => fun
  | [d1, d2] => { results := [.lit (.bool true)], args := [d1, d2] }
  | _ => none }
def fnExactExtendRegisterRow : OpenClaim := { program := "ytbhjkheedhlelaa", sum := "f9073e80af4538cc61c572a910bc00c5ea47062af82891e0f1d79f7a3126318a", func := "loop.example/g00594/laws.FnExactExtendRegister", spec := "fnExactExtendRegister", apart := false }
def FnExactExtendRegisterSaid : Prop := fnExactExtendRegisterRow.holds Try.pinned (OpenSpec.ofChange fnExactExtendRegisterSpec)

/-- ITS FALSE NEIGHBOUR: 'it returns false'. Refute it at one input. -/
def fnExactExtendRegisterWrong : ChangeSpec := { name := "fnExactExtendRegister", fn := fun _ => fun
  | [d1, d2] => { results := [.lit (.bool false)], args := [d1, d2] }
  | _ => none }
def FnExactExtendRegisterWrongFalsely : Prop := fnExactExtendRegisterRow.holds Try.pinned (OpenSpec.ofChange fnExactExtendRegisterWrong)

/-- 'laws.FnExactFactInts': WHATEVER THE INPUT: true; the input reads as it did. -/
def fnExactFactIntsSpec : ChangeSpec := { name := "fnExactFactInts", fn := fun _ => fun
  | [d] => { results := [.lit (.bool true)], args := [d] }
  | _ => none }
def fnExactFactIntsRow : OpenClaim := { program := "ytbhjkheedhlelaa", sum := "f9073e80af4538cc61c572a910bc00c5ea47062af82891e0f1d79f7a3126318a", func := "loop.example/g00594/laws.FnExactFactInts", spec := "fnExactFactInts", apart := false }
def FnExactFactIntsSaid : Prop := fnExactFactIntsRow.holds Try.pinned (OpenSpec.ofChange fnExactFactIntsSpec)

/-- ITS FALSE NEIGHBOUR: 'it returns false'. Refute it at one input. -/
def fnExactFactIntsWrong : ChangeSpec := { name := "fnExactFactInts", fn := fun _ => fun
  | [d] => { results := [.lit (.bool false)], args := [d] }
  | _ => none }
def FnExactFactIntsWrongFalsely : Prop := fnExactFactIntsRow.holds Try.pinned (OpenSpec.ofChange fnExactFactIntsWrong)

/-- 'laws.FnExactIsPrefixLog': WHATEVER THE INPUT: true; the input reads as it did. -/
def fnExactIsPrefixLogSpec : ChangeSpec := { name := "fnExactIsPrefixLog", fn := fun _ => fun
  | [d1, d2] => { results := [.lit (.bool true)], args := [d1, d2] }
  | _ => none }
def fnExactIsPrefixLogRow : OpenClaim := { program := "ytbhjkheedhlelaa", sum := "f9073e80af4538cc61c572a910bc00c5ea47062af82891e0f1d79f7a3126318a", func := "loop.example/g00594/laws.FnExactIsPrefixLog", spec := "fnExactIsPrefixLog", apart := false }
def FnExactIsPrefixLogSaid : Prop := fnExactIsPrefixLogRow.holds Try.pinned (OpenSpec.ofChange fnExactIsPrefixLogSpec)

/-- ITS FALSE NEIGHBOUR: 'it returns false'. Refute it at one input. -/
def fnExactIsPrefixLogWrong : ChangeSpec := { name := "fnExactIsPrefixLog", fn := fun _ => fun
  | [d1, d2] => { results := [.lit (.bool false)], args := [d1, d2] }
  | _ => none }
def FnExactIsPrefixLogWrongFalsely : Prop := fnExactIsPrefixLogRow.holds Try.pinned (OpenSpec.ofChange fnExactIsPrefixLogWrong)

/-- 'laws.FnExactIsLog': WHATEVER THE INPUT: true; the input reads as it did. -/
def fnExactIsLogSpec : ChangeSpec := { name := "fnExactIsLog", fn := fun _ => fun
  | [d] => { results := [.lit (.bool true)], args := [d] }
  | _ => none }
def fnExactIsLogRow : OpenClaim := { program := "ytbhjkheedhlelaa", sum := "f9073e80af4538cc61c572a910bc00c5ea47062af82891e0f1d79f7a3126318a", func := "loop.example/g00594/laws.FnExactIsLog", spec := "fnExactIsLog", unfollowed := true, recurses := true, apart := false }
def FnExactIsLogSaid : Prop := fnExactIsLogRow.holds Try.pinned (OpenSpec.ofChange fnExactIsLogSpec)

/-- ITS FALSE NEIGHBOUR: 'it returns false'. Refute it at one input. -/
def fnExactIsLogWrong : ChangeSpec := { name := "fnExactIsLog", fn := fun _ => fun
  | [d] => { results := [.lit (.bool false)], args := [d] }
  | _ => none }
def FnExactIsLogWrongFalsely : Prop := fnExactIsLogRow.holds Try.pinned (OpenSpec.ofChange fnExactIsLogWrong)

/-- 'laws.FnExactAreRevoked': WHATEVER THE INPUT: true; the input reads as it did. -/
def fnExactAreRevokedSpec : ChangeSpec := { name := "fnExactAreRevoked", fn := fun _ => fun
  | [d] => { results := [.lit (.bool true)], args := [d] }
  | _ => none }
def fnExactAreRevokedRow : OpenClaim := { program := "ytbhjkheedhlelaa", sum := "f9073e80af4538cc61c572a910bc00c5ea47062af82891e0f1d79f7a3126318a", func := "loop.example/g00594/laws.FnExactAreRevoked", spec := "fnExactAreRevoked", apart := false }
def FnExactAreRevokedSaid : Prop := fnExactAreRevokedRow.holds Try.pinned (OpenSpec.ofChange fnExactAreRevokedSpec)

/-- ITS FALSE NEIGHBOUR: 'it returns false'. Refute it at one input. -/
def fnExactAreRevokedWrong : ChangeSpec := { name := "fnExactAreRevoked", fn := fun _ => fun
  | [d] => { results := [.lit (.bool false)], args := [d] }
  | _ => none }
def FnExactAreRevokedWrongFalsely : Prop := fnExactAreRevokedRow.holds Try.pinned (OpenSpec.ofChange fnExactAreRevokedWrong)

/-- 'laws.FnExactRevokedAt': WHATEVER THE INPUT: true; the input reads as it did. -/
def fnExactRevokedAtSpec : ChangeSpec := { name := "fnExactRevokedAt", fn := fun _ => fun
  | [d1, d2] => { results := [.lit (.bool true)], args := [d1, d2] }
  | _ => none }
def fnExactRevokedAtRow : OpenClaim := { program := "ytbhjkheedhlelaa", sum := "f9073e80af4538cc61c572a910bc00c5ea47062af82891e0f1d79f7a3126318a", func := "loop.example/g00594/laws.FnExactRevokedAt", spec := "fnExactRevokedAt", unfollowed := true, recurses := true, apart := false }
def FnExactRevokedAtSaid : Prop := fnExactRevokedAtRow.holds Try.pinned (OpenSpec.ofChange fnExactRevokedAtSpec)

/-- ITS FALSE NEIGHBOUR: 'it returns false'. Refute it at one input. -/
def fnExactRevokedAtWrong : ChangeSpec := { name := "fnExactRevokedAt", fn := fun _ => fun
  | [d1, d2] => { results := [.lit (.bool false)], args := [d1, d2] }
  | _ => none }
def FnExactRevokedAtWrongFalsely : Prop := fnExactRevokedAtRow.holds Try.pinned (OpenSpec.ofChange fnExactRevokedAtWrong)

/-- 'laws.FnExactProveKey': WHATEVER THE INPUT: true; the input reads as it did. -/
def fnExactProveKeySpec : ChangeSpec := { name := "fnExactProveKey", fn := fun _ => fun
  | [d1, d2] => { results := [.lit (.bool true)], args := [d1, d2] }
  | _ => none }
def fnExactProveKeyRow : OpenClaim := { program := "ytbhjkheedhlelaa", sum := "f9073e80af4538cc61c572a910bc00c5ea47062af82891e0f1d79f7a3126318a", func := "loop.example/g00594/laws.FnExactProveKey", spec := "fnExactProveKey", apart := false }
def FnExactProveKeySaid : Prop := fnExactProveKeyRow.holds Try.pinned (OpenSpec.ofChange fnExactProveKeySpec)

/-- ITS FALSE NEIGHBOUR: 'it returns false'. Refute it at one input. -/
def fnExactProveKeyWrong : ChangeSpec := { name := "fnExactProveKey", fn := fun _ => fun
  | [d1, d2] => { results := [.lit (.bool false)], args := [d1, d2] }
  | _ => none }
def FnExactProveKeyWrongFalsely : Prop := fnExactProveKeyRow.holds Try.pinned (OpenSpec.ofChange fnExactProveKeyWrong)

/-- 'laws.FnExactRegisterOf': WHATEVER THE INPUT: true; the input reads as it did. -/
def fnExactRegisterOfSpec : ChangeSpec := { name := "fnExactRegisterOf", fn := fun _ => fun
  | [d] => { results := [.lit (.bool true)], args := [d] }
  | _ => none }
def fnExactRegisterOfRow : OpenClaim := { program := "ytbhjkheedhlelaa", sum := "f9073e80af4538cc61c572a910bc00c5ea47062af82891e0f1d79f7a3126318a", func := "loop.example/g00594/laws.FnExactRegisterOf", spec := "fnExactRegisterOf", apart := false }
def FnExactRegisterOfSaid : Prop := fnExactRegisterOfRow.holds Try.pinned (OpenSpec.ofChange fnExactRegisterOfSpec)

/-- ITS FALSE NEIGHBOUR: 'it returns false'. Refute it at one input. -/
def fnExactRegisterOfWrong : ChangeSpec := { name := "fnExactRegisterOf", fn := fun _ => fun
  | [d] => { results := [.lit (.bool false)], args := [d] }
  | _ => none }
def FnExactRegisterOfWrongFalsely : Prop := fnExactRegisterOfRow.holds Try.pinned (OpenSpec.ofChange fnExactRegisterOfWrong)

/-- 'laws.FnExactIsRevoked': WHATEVER THE INPUT: true; the input reads as it did. -/
def fnExactIsRevokedSpec : ChangeSpec := { name := "fnExactIsRevoked", fn := fun _ => fun
  | [d1, d2, d3] => { results := [.lit (.bool true)], args := [d1, d2, d3] }
  | _ => none }
def fnExactIsRevokedRow : OpenClaim := { program := "ytbhjkheedhlelaa", sum := "f9073e80af4538cc61c572a910bc00c5ea47062af82891e0f1d79f7a3126318a", func := "loop.example/g00594/laws.FnExactIsRevoked", spec := "fnExactIsRevoked", unfollowed := true, recurses := true, apart := false }
def FnExactIsRevokedSaid : Prop := fnExactIsRevokedRow.holds Try.pinned (OpenSpec.ofChange fnExactIsRevokedSpec)

/-- ITS FALSE NEIGHBOUR: 'it returns false'. Refute it at one input. -/
def fnExactIsRevokedWrong : ChangeSpec := { name := "fnExactIsRevoked", fn := fun _ => fun
  | [d1, d2, d3] => { results := [.lit (.bool false)], args := [d1, d2, d3] }
  | _ => none }
def FnExactIsRevokedWrongFalsely : Prop := fnExactIsRevokedRow.holds Try.pinned (OpenSpec.ofChange fnExactIsRevokedWrong)

/- THE SECOND FORM. 'bulk': how many values and letters a reading holds, each counted each time it is reached (what is shared counts as often as it is met; a slice's spare places count too). A statement '..UptoSaid' is the law's where the arguments, and the package variables that the reading takes, are together of bulk at most 1048576: NARROWER than '..Said'. Prove '..Said' where nothing that the law and all that it calls make is longer than what came in: it says more and counts as full. Else prove '..UptoSaid'. A law counts once. -/
mutual
def uptoBulk {H : Type} : DataW H → Nat
  | .lit (.string bytes) => bytes.length + 1
  | .lit _ => 1
  | .nil => 1
  | .ptr d => uptoBulk d + 1
  | .slice elems spare => uptoBulkAll elems + uptoBulkAll spare + 1
  | .agg parts => uptoBulkAll parts + 1
  | .iface _ d => uptoBulk d + 1
  | .map entries => uptoBulkEntries entries + 1
  | .held _ => 1
def uptoBulkAll {H : Type} : List (DataW H) → Nat
  | [] => 0
  | d :: r => uptoBulk d + uptoBulkAll r
def uptoBulkEntries {H : Type} : List (Lit × DataW H) → Nat
  | [] => 0
  | x :: r => uptoBulkEntry x + uptoBulkEntries r
def uptoBulkEntry {H : Type} : Lit × DataW H → Nat
  | (.string bytes, d) => bytes.length + uptoBulk d + 1
  | (_, d) => uptoBulk d + 1
 end
def uptoSmall : (H : Type) → List (DataW H) → Bool := fun _ ds => decide (uptoBulkAll ds ≤ 1048576)
def OpenSpec.upto (s : _root_.Go.ChangeSpec) : _root_.Go.OpenSpec := { _root_.Go.OpenSpec.ofChange s with cond := some uptoSmall }

/-- 'laws.FnExactArityOf', WHERE WHAT IT READS IS OF BULK AT MOST 1048576: true; the input reads as it did. -/
def fnExactArityOfUptoRow : OpenClaim := { program := "ytbhjkheedhlelaa", sum := "f9073e80af4538cc61c572a910bc00c5ea47062af82891e0f1d79f7a3126318a", func := "loop.example/g00594/laws.FnExactArityOf", spec := "fnExactArityOf", apart := false, narrowed := true }
def FnExactArityOfUptoSaid : Prop := fnExactArityOfUptoRow.holds Try.pinned (OpenSpec.upto fnExactArityOfSpec)

/-- 'laws.FnExactIsCert', WHERE WHAT IT READS IS OF BULK AT MOST 1048576: true; the input reads as it did. -/
def fnExactIsCertUptoRow : OpenClaim := { program := "ytbhjkheedhlelaa", sum := "f9073e80af4538cc61c572a910bc00c5ea47062af82891e0f1d79f7a3126318a", func := "loop.example/g00594/laws.FnExactIsCert", spec := "fnExactIsCert", apart := false, narrowed := true }
def FnExactIsCertUptoSaid : Prop := fnExactIsCertUptoRow.holds Try.pinned (OpenSpec.upto fnExactIsCertSpec)

/-- 'laws.FnExactExtendRegister', WHERE WHAT IT READS IS OF BULK AT MOST 1048576: true; the input reads as it did. -/
def fnExactExtendRegisterUptoRow : OpenClaim := { program := "ytbhjkheedhlelaa", sum := "f9073e80af4538cc61c572a910bc00c5ea47062af82891e0f1d79f7a3126318a", func := "loop.example/g00594/laws.FnExactExtendRegister", spec := "fnExactExtendRegister", apart := false, narrowed := true }
def FnExactExtendRegisterUptoSaid : Prop := fnExactExtendRegisterUptoRow.holds Try.pinned (OpenSpec.upto fnExactExtendRegisterSpec)

/-- 'laws.FnExactFactInts', WHERE WHAT IT READS IS OF BULK AT MOST 1048576: true; the input reads as it did. -/
def fnExactFactIntsUptoRow : OpenClaim := { program := "ytbhjkheedhlelaa", sum := "f9073e80af4538cc61c572a910bc00c5ea47062af82891e0f1d79f7a3126318a", func := "loop.example/g00594/laws.FnExactFactInts", spec := "fnExactFactInts", apart := false, narrowed := true }
def FnExactFactIntsUptoSaid : Prop := fnExactFactIntsUptoRow.holds Try.pinned (OpenSpec.upto fnExactFactIntsSpec)

/-- 'laws.FnExactIsPrefixLog', WHERE WHAT IT READS IS OF BULK AT MOST 1048576: true; the input reads as it did. -/
def fnExactIsPrefixLogUptoRow : OpenClaim := { program := "ytbhjkheedhlelaa", sum := "f9073e80af4538cc61c572a910bc00c5ea47062af82891e0f1d79f7a3126318a", func := "loop.example/g00594/laws.FnExactIsPrefixLog", spec := "fnExactIsPrefixLog", apart := false, narrowed := true }
def FnExactIsPrefixLogUptoSaid : Prop := fnExactIsPrefixLogUptoRow.holds Try.pinned (OpenSpec.upto fnExactIsPrefixLogSpec)

/-- 'laws.FnExactIsLog', WHERE WHAT IT READS IS OF BULK AT MOST 1048576: true; the input reads as it did. -/
def fnExactIsLogUptoRow : OpenClaim := { program := "ytbhjkheedhlelaa", sum := "f9073e80af4538cc61c572a910bc00c5ea47062af82891e0f1d79f7a3126318a", func := "loop.example/g00594/laws.FnExactIsLog", spec := "fnExactIsLog", unfollowed := true, recurses := true, apart := false, narrowed := true }
def FnExactIsLogUptoSaid : Prop := fnExactIsLogUptoRow.holds Try.pinned (OpenSpec.upto fnExactIsLogSpec)

/-- 'laws.FnExactAreRevoked', WHERE WHAT IT READS IS OF BULK AT MOST 1048576: true; the input reads as it did. -/
def fnExactAreRevokedUptoRow : OpenClaim := { program := "ytbhjkheedhlelaa", sum := "f9073e80af4538cc61c572a910bc00c5ea47062af82891e0f1d79f7a3126318a", func := "loop.example/g00594/laws.FnExactAreRevoked", spec := "fnExactAreRevoked", apart := false, narrowed := true }
def FnExactAreRevokedUptoSaid : Prop := fnExactAreRevokedUptoRow.holds Try.pinned (OpenSpec.upto fnExactAreRevokedSpec)

/-- 'laws.FnExactRevokedAt', WHERE WHAT IT READS IS OF BULK AT MOST 1048576: true; the input reads as it did. -/
def fnExactRevokedAtUptoRow : OpenClaim := { program := "ytbhjkheedhlelaa", sum := "f9073e80af4538cc61c572a910bc00c5ea47062af82891e0f1d79f7a3126318a", func := "loop.example/g00594/laws.FnExactRevokedAt", spec := "fnExactRevokedAt", unfollowed := true, recurses := true, apart := false, narrowed := true }
def FnExactRevokedAtUptoSaid : Prop := fnExactRevokedAtUptoRow.holds Try.pinned (OpenSpec.upto fnExactRevokedAtSpec)

/-- 'laws.FnExactProveKey', WHERE WHAT IT READS IS OF BULK AT MOST 1048576: true; the input reads as it did. -/
def fnExactProveKeyUptoRow : OpenClaim := { program := "ytbhjkheedhlelaa", sum := "f9073e80af4538cc61c572a910bc00c5ea47062af82891e0f1d79f7a3126318a", func := "loop.example/g00594/laws.FnExactProveKey", spec := "fnExactProveKey", apart := false, narrowed := true }
def FnExactProveKeyUptoSaid : Prop := fnExactProveKeyUptoRow.holds Try.pinned (OpenSpec.upto fnExactProveKeySpec)

/-- 'laws.FnExactRegisterOf', WHERE WHAT IT READS IS OF BULK AT MOST 1048576: true; the input reads as it did. -/
def fnExactRegisterOfUptoRow : OpenClaim := { program := "ytbhjkheedhlelaa", sum := "f9073e80af4538cc61c572a910bc00c5ea47062af82891e0f1d79f7a3126318a", func := "loop.example/g00594/laws.FnExactRegisterOf", spec := "fnExactRegisterOf", apart := false, narrowed := true }
def FnExactRegisterOfUptoSaid : Prop := fnExactRegisterOfUptoRow.holds Try.pinned (OpenSpec.upto fnExactRegisterOfSpec)

/-- 'laws.FnExactIsRevoked', WHERE WHAT IT READS IS OF BULK AT MOST 1048576: true; the input reads as it did. -/
def fnExactIsRevokedUptoRow : OpenClaim := { program := "ytbhjkheedhlelaa", sum := "f9073e80af4538cc61c572a910bc00c5ea47062af82891e0f1d79f7a3126318a", func := "loop.example/g00594/laws.FnExactIsRevoked", spec := "fnExactIsRevoked", unfollowed := true, recurses := true, apart := false, narrowed := true }
def FnExactIsRevokedUptoSaid : Prop := fnExactIsRevokedUptoRow.holds Try.pinned (OpenSpec.upto fnExactIsRevokedSpec)

end Rows
end Go.Proofs.Ytbhjkheedhlelaa
