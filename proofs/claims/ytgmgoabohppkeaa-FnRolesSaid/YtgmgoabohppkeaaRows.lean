/-
  No cell of these rows narrows 'for every input' (looked for: loops, veiled, ifaces, maps, wideKeys, modest, calm, conditions, laid).
  DERIVED. THE GIVEN ROWS OF THIS SEAT. 12 by the template 'for every input the law returns true; each argument reads behind the call as it read before'; 0 by the template 'total and deterministic' (their statements: YtgmgoabohppkeaaTotals.lean).
  GIVEN WITH THE SEED: the statements are not yours to turn. If you find one false, say at which input.
  Laid BY PROGRAM, IN A SANDBOX (cutbox-rows.mjs): the forced cells as the released guide's own fill.sh prints them over the translation b29ab61db8ee9813… (all of the seat's roots in one cut). By AI agents, Wed Nov 11 2026. No macro, syntax, notation, axiom, sorry.
-/
import Derived.Test.YtgmgoabohppkeaaChecked
import GoSem.Claim
import GoSem.ClaimJoined
import GoSem.ClaimMapViews
import Derived.JoinedTies
import Derived.KernelRfl
namespace Go.Proofs.Ytgmgoabohppkeaa
/- THE CELL 'sum', in the pinned program and in every row, IS THE sha256 OF THE DUMP (.gsa) THAT YtgmgoabohppkeaaProg.lean LOADS. Nothing in Lean hashes anything: it is a label: what it is worth is what the hold of that sum in a sandbox is worth. -/
noncomputable def Try.pinned : Pinned := { name := "ytgmgoabohppkeaa", sum := "b29ab61db8ee981385c228e5bc3f3bdb23d17f28b08e8e942c4ade29ced12a80", checked := Try.checked }
namespace Rows
def none {H : Type} : Left H := { results := [], args := [] }

/-- 'laws.FnExactRolesOf': WHATEVER THE INPUT: true; the input reads as it did. -/
def fnExactRolesOfSpec : ChangeSpec := { name := "fnExactRolesOf", fn := fun _ => fun
  | [d1, d2, d3, d4, d5] => { results := [.lit (.bool true)], args := [d1, d2, d3, d4, d5] }
  | _ => none }
def fnExactRolesOfRow : OpenClaim := { program := "ytgmgoabohppkeaa", sum := "b29ab61db8ee981385c228e5bc3f3bdb23d17f28b08e8e942c4ade29ced12a80", func := "loop.example/g00594/laws.FnExactRolesOf", spec := "fnExactRolesOf", recurses := true, apart := false }
def FnExactRolesOfSaid : Prop := fnExactRolesOfRow.holds Try.pinned (OpenSpec.ofChange fnExactRolesOfSpec)

/-- ITS FALSE NEIGHBOUR: 'it returns false'. Refute it at one input. -/
def fnExactRolesOfWrong : ChangeSpec := { name := "fnExactRolesOf", fn := fun _ => fun
  | [d1, d2, d3, d4, d5] => { results := [.lit (.bool false)], args := [d1, d2, d3, d4, d5] }
  | _ => none }
def FnExactRolesOfWrongFalsely : Prop := fnExactRolesOfRow.holds Try.pinned (OpenSpec.ofChange fnExactRolesOfWrong)

/-- 'laws.FnExactArePairs': WHATEVER THE INPUT: true; the input reads as it did. -/
def fnExactArePairsSpec : ChangeSpec := { name := "fnExactArePairs", fn := fun _ => fun
  | [d] => { results := [.lit (.bool true)], args := [d] }
  | _ => none }
def fnExactArePairsRow : OpenClaim := { program := "ytgmgoabohppkeaa", sum := "b29ab61db8ee981385c228e5bc3f3bdb23d17f28b08e8e942c4ade29ced12a80", func := "loop.example/g00594/laws.FnExactArePairs", spec := "fnExactArePairs", apart := false }
def FnExactArePairsSaid : Prop := fnExactArePairsRow.holds Try.pinned (OpenSpec.ofChange fnExactArePairsSpec)

/-- ITS FALSE NEIGHBOUR: 'it returns false'. Refute it at one input. -/
def fnExactArePairsWrong : ChangeSpec := { name := "fnExactArePairs", fn := fun _ => fun
  | [d] => { results := [.lit (.bool false)], args := [d] }
  | _ => none }
def FnExactArePairsWrongFalsely : Prop := fnExactArePairsRow.holds Try.pinned (OpenSpec.ofChange fnExactArePairsWrong)

/-- 'laws.FnExactTopRoles': WHATEVER THE INPUT: true; the input reads as it did. -/
def fnExactTopRolesSpec : ChangeSpec := { name := "fnExactTopRoles", fn := fun _ => fun
  | [d] => { results := [.lit (.bool true)], args := [d] }
  | _ => none }
def fnExactTopRolesRow : OpenClaim := { program := "ytgmgoabohppkeaa", sum := "b29ab61db8ee981385c228e5bc3f3bdb23d17f28b08e8e942c4ade29ced12a80", func := "loop.example/g00594/laws.FnExactTopRoles", spec := "fnExactTopRoles", unfollowed := true, recurses := true, apart := false }
def FnExactTopRolesSaid : Prop := fnExactTopRolesRow.holds Try.pinned (OpenSpec.ofChange fnExactTopRolesSpec)

/-- ITS FALSE NEIGHBOUR: 'it returns false'. Refute it at one input. -/
def fnExactTopRolesWrong : ChangeSpec := { name := "fnExactTopRoles", fn := fun _ => fun
  | [d] => { results := [.lit (.bool false)], args := [d] }
  | _ => none }
def FnExactTopRolesWrongFalsely : Prop := fnExactTopRolesRow.holds Try.pinned (OpenSpec.ofChange fnExactTopRolesWrong)

/-- 'laws.FnExactRolesUnder': WHATEVER THE INPUT: true; the input reads as it did. -/
def fnExactRolesUnderSpec : ChangeSpec := { name := "fnExactRolesUnder", fn := fun _ => fun
  | [d1, d2] => { results := [.lit (.bool true)], args := [d1, d2] }
  | _ => none }
def fnExactRolesUnderRow : OpenClaim := { program := "ytgmgoabohppkeaa", sum := "b29ab61db8ee981385c228e5bc3f3bdb23d17f28b08e8e942c4ade29ced12a80", func := "loop.example/g00594/laws.FnExactRolesUnder", spec := "fnExactRolesUnder", apart := false }
def FnExactRolesUnderSaid : Prop := fnExactRolesUnderRow.holds Try.pinned (OpenSpec.ofChange fnExactRolesUnderSpec)

/-- ITS FALSE NEIGHBOUR: 'it returns false'. Refute it at one input. -/
def fnExactRolesUnderWrong : ChangeSpec := { name := "fnExactRolesUnder", fn := fun _ => fun
  | [d1, d2] => { results := [.lit (.bool false)], args := [d1, d2] }
  | _ => none }
def FnExactRolesUnderWrongFalsely : Prop := fnExactRolesUnderRow.holds Try.pinned (OpenSpec.ofChange fnExactRolesUnderWrong)

/-- 'laws.FnExactAddRevoked': WHATEVER THE INPUT: true; the input reads as it did. -/
def fnExactAddRevokedSpec : ChangeSpec := { name := "fnExactAddRevoked", fn := fun _ => fun
  | [d1, d2, d3] => { results := [.lit (.bool true)], args := [d1, d2, d3] }
  | _ => none }
def fnExactAddRevokedRow : OpenClaim := { program := "ytgmgoabohppkeaa", sum := "b29ab61db8ee981385c228e5bc3f3bdb23d17f28b08e8e942c4ade29ced12a80", func := "loop.example/g00594/laws.FnExactAddRevoked", spec := "fnExactAddRevoked", inPlace := ["slices.overlaps[loop.example/g00594/impl.Revoked]"], apart := false }
def FnExactAddRevokedSaid : Prop := fnExactAddRevokedRow.holds Try.pinned (OpenSpec.ofChange fnExactAddRevokedSpec)

/-- ITS FALSE NEIGHBOUR: 'it returns false'. Refute it at one input. -/
def fnExactAddRevokedWrong : ChangeSpec := { name := "fnExactAddRevoked", fn := fun _ => fun
  | [d1, d2, d3] => { results := [.lit (.bool false)], args := [d1, d2, d3] }
  | _ => none }
def FnExactAddRevokedWrongFalsely : Prop := fnExactAddRevokedRow.holds Try.pinned (OpenSpec.ofChange fnExactAddRevokedWrong)

/-- 'laws.FnExactMergeRevoked': WHATEVER THE INPUT: true; the input reads as it did. -/
def fnExactMergeRevokedSpec : ChangeSpec := { name := "fnExactMergeRevoked", fn := fun _ => fun
  | [d1, d2] => { results := [.lit (.bool true)], args := [d1, d2] }
  | _ => none }
def fnExactMergeRevokedRow : OpenClaim := { program := "ytgmgoabohppkeaa", sum := "b29ab61db8ee981385c228e5bc3f3bdb23d17f28b08e8e942c4ade29ced12a80", func := "loop.example/g00594/laws.FnExactMergeRevoked", spec := "fnExactMergeRevoked", inPlace := ["slices.overlaps[loop.example/g00594/impl.Revoked]"], apart := false }
def FnExactMergeRevokedSaid : Prop := fnExactMergeRevokedRow.holds Try.pinned (OpenSpec.ofChange fnExactMergeRevokedSpec)

/-- ITS FALSE NEIGHBOUR: 'it returns false'. Refute it at one input. -/
def fnExactMergeRevokedWrong : ChangeSpec := { name := "fnExactMergeRevoked", fn := fun _ => fun
  | [d1, d2] => { results := [.lit (.bool false)], args := [d1, d2] }
  | _ => none }
def FnExactMergeRevokedWrongFalsely : Prop := fnExactMergeRevokedRow.holds Try.pinned (OpenSpec.ofChange fnExactMergeRevokedWrong)

/-- 'laws.FnRevocation': WHATEVER THE INPUT: true; the input reads as it did. -/
def fnRevocationSpec : ChangeSpec := { name := "fnRevocation", fn := fun _ => fun
  | [d] => { results := [.lit (.bool true)], args := [d] }
  | _ => none }
def fnRevocationRow : OpenClaim := { program := "ytgmgoabohppkeaa", sum := "b29ab61db8ee981385c228e5bc3f3bdb23d17f28b08e8e942c4ade29ced12a80", func := "loop.example/g00594/laws.FnRevocation", spec := "fnRevocation", inPlace := ["slices.overlaps[loop.example/g00594/impl.Revoked]"], unfollowed := true, recurses := true, apart := false }
def FnRevocationSaid : Prop := fnRevocationRow.holds Try.pinned (OpenSpec.ofChange fnRevocationSpec)

/-- ITS FALSE NEIGHBOUR: 'it returns false'. Refute it at one input. -/
def fnRevocationWrong : ChangeSpec := { name := "fnRevocation", fn := fun _ => fun
  | [d] => { results := [.lit (.bool false)], args := [d] }
  | _ => none }
def FnRevocationWrongFalsely : Prop := fnRevocationRow.holds Try.pinned (OpenSpec.ofChange fnRevocationWrong)

/-- 'laws.FnExactIsAccepted': WHATEVER THE INPUT: true; the input reads as it did. -/
def fnExactIsAcceptedSpec : ChangeSpec := { name := "fnExactIsAccepted", fn := fun _ => fun
  | [d1, d2, d3, d4, d5, d6, d7] => { results := [.lit (.bool true)], args := [d1, d2, d3, d4, d5, d6, d7] }
  | _ => none }
def fnExactIsAcceptedRow : OpenClaim := { program := "ytgmgoabohppkeaa", sum := "b29ab61db8ee981385c228e5bc3f3bdb23d17f28b08e8e942c4ade29ced12a80", func := "loop.example/g00594/laws.FnExactIsAccepted", spec := "fnExactIsAccepted", recurses := true, apart := false }
def FnExactIsAcceptedSaid : Prop := fnExactIsAcceptedRow.holds Try.pinned (OpenSpec.ofChange fnExactIsAcceptedSpec)

/-- ITS FALSE NEIGHBOUR: 'it returns false'. Refute it at one input. -/
def fnExactIsAcceptedWrong : ChangeSpec := { name := "fnExactIsAccepted", fn := fun _ => fun
  | [d1, d2, d3, d4, d5, d6, d7] => { results := [.lit (.bool false)], args := [d1, d2, d3, d4, d5, d6, d7] }
  | _ => none }
def FnExactIsAcceptedWrongFalsely : Prop := fnExactIsAcceptedRow.holds Try.pinned (OpenSpec.ofChange fnExactIsAcceptedWrong)

/-- 'laws.FnExactAcceptedUntil': WHATEVER THE INPUT: true; the input reads as it did. -/
def fnExactAcceptedUntilSpec : ChangeSpec := { name := "fnExactAcceptedUntil", fn := fun _ => fun
  | [d1, d2, d3, d4, d5, d6, d7] => { results := [.lit (.bool true)], args := [d1, d2, d3, d4, d5, d6, d7] }
  | _ => none }
def fnExactAcceptedUntilRow : OpenClaim := { program := "ytgmgoabohppkeaa", sum := "b29ab61db8ee981385c228e5bc3f3bdb23d17f28b08e8e942c4ade29ced12a80", func := "loop.example/g00594/laws.FnExactAcceptedUntil", spec := "fnExactAcceptedUntil", recurses := true, apart := false }
def FnExactAcceptedUntilSaid : Prop := fnExactAcceptedUntilRow.holds Try.pinned (OpenSpec.ofChange fnExactAcceptedUntilSpec)

/-- ITS FALSE NEIGHBOUR: 'it returns false'. Refute it at one input. -/
def fnExactAcceptedUntilWrong : ChangeSpec := { name := "fnExactAcceptedUntil", fn := fun _ => fun
  | [d1, d2, d3, d4, d5, d6, d7] => { results := [.lit (.bool false)], args := [d1, d2, d3, d4, d5, d6, d7] }
  | _ => none }
def FnExactAcceptedUntilWrongFalsely : Prop := fnExactAcceptedUntilRow.holds Try.pinned (OpenSpec.ofChange fnExactAcceptedUntilWrong)

/-- 'laws.FnExactWhoState': WHATEVER THE INPUT: true; the input reads as it did. -/
def fnExactWhoStateSpec : ChangeSpec := { name := "fnExactWhoState", fn := fun _ => fun
  | [d1, d2, d3, d4, d5, d6] => { results := [.lit (.bool true)], args := [d1, d2, d3, d4, d5, d6] }
  | _ => none }
def fnExactWhoStateRow : OpenClaim := { program := "ytgmgoabohppkeaa", sum := "b29ab61db8ee981385c228e5bc3f3bdb23d17f28b08e8e942c4ade29ced12a80", func := "loop.example/g00594/laws.FnExactWhoState", spec := "fnExactWhoState", recurses := true, apart := false }
def FnExactWhoStateSaid : Prop := fnExactWhoStateRow.holds Try.pinned (OpenSpec.ofChange fnExactWhoStateSpec)

/-- ITS FALSE NEIGHBOUR: 'it returns false'. Refute it at one input. -/
def fnExactWhoStateWrong : ChangeSpec := { name := "fnExactWhoState", fn := fun _ => fun
  | [d1, d2, d3, d4, d5, d6] => { results := [.lit (.bool false)], args := [d1, d2, d3, d4, d5, d6] }
  | _ => none }
def FnExactWhoStateWrongFalsely : Prop := fnExactWhoStateRow.holds Try.pinned (OpenSpec.ofChange fnExactWhoStateWrong)

/-- 'laws.FnExactHasRole': WHATEVER THE INPUT: true; the input reads as it did. -/
def fnExactHasRoleSpec : ChangeSpec := { name := "fnExactHasRole", fn := fun _ => fun
  | [d1, d2, d3, d4, d5, d6] => { results := [.lit (.bool true)], args := [d1, d2, d3, d4, d5, d6] }
  | _ => none }
def fnExactHasRoleRow : OpenClaim := { program := "ytgmgoabohppkeaa", sum := "b29ab61db8ee981385c228e5bc3f3bdb23d17f28b08e8e942c4ade29ced12a80", func := "loop.example/g00594/laws.FnExactHasRole", spec := "fnExactHasRole", recurses := true, apart := false }
def FnExactHasRoleSaid : Prop := fnExactHasRoleRow.holds Try.pinned (OpenSpec.ofChange fnExactHasRoleSpec)

/-- ITS FALSE NEIGHBOUR: 'it returns false'. Refute it at one input. -/
def fnExactHasRoleWrong : ChangeSpec := { name := "fnExactHasRole", fn := fun _ => fun
  | [d1, d2, d3, d4, d5, d6] => { results := [.lit (.bool false)], args := [d1, d2, d3, d4, d5, d6] }
  | _ => none }
def FnExactHasRoleWrongFalsely : Prop := fnExactHasRoleRow.holds Try.pinned (OpenSpec.ofChange fnExactHasRoleWrong)

/-- 'laws.FnRoles': WHATEVER THE INPUT: true; the input reads as it did. -/
def fnRolesSpec : ChangeSpec := { name := "fnRoles", fn := fun _ => fun
  | [d] => { results := [.lit (.bool true)], args := [d] }
  | _ => none }
def fnRolesRow : OpenClaim := { program := "ytgmgoabohppkeaa", sum := "b29ab61db8ee981385c228e5bc3f3bdb23d17f28b08e8e942c4ade29ced12a80", func := "loop.example/g00594/laws.FnRoles", spec := "fnRoles", unfollowed := true, recurses := true, apart := false }
def FnRolesSaid : Prop := fnRolesRow.holds Try.pinned (OpenSpec.ofChange fnRolesSpec)

/-- ITS FALSE NEIGHBOUR: 'it returns false'. Refute it at one input. -/
def fnRolesWrong : ChangeSpec := { name := "fnRoles", fn := fun _ => fun
  | [d] => { results := [.lit (.bool false)], args := [d] }
  | _ => none }
def FnRolesWrongFalsely : Prop := fnRolesRow.holds Try.pinned (OpenSpec.ofChange fnRolesWrong)

/- THE SECOND FORM. 'bulk': how many values and letters a reading holds, each counted each time it is reached (what is shared counts as often as it is met; a slice's spare places count too). A statement '..UptoSaid' is the law's where the arguments, and the package variables that the reading takes, are together of bulk at most 1048576: NARROWER than '..Said'. Prove '..Said' where nothing that the law and all that it calls make is longer than what came in: it says more and counts as full. Else prove '..UptoSaid'. A law counts once. -/
mutual
def uptoBulk {H : Type} : DataW H → Nat
  | .lit (.string bytes) => bytes.length + 1
  | .lit _ => 1
  | .nil => 1
  | .ptr d => uptoBulk d + 1
  | .slice elems spare => uptoBulkAll elems + uptoBulkAll spare + 1
  | .agg parts => uptoBulkAll parts + 1
  | .iface _ d => uptoBulk d + 1
  | .map entries => uptoBulkEntries entries + 1
  | .held _ => 1
def uptoBulkAll {H : Type} : List (DataW H) → Nat
  | [] => 0
  | d :: r => uptoBulk d + uptoBulkAll r
def uptoBulkEntries {H : Type} : List (Lit × DataW H) → Nat
  | [] => 0
  | x :: r => uptoBulkEntry x + uptoBulkEntries r
def uptoBulkEntry {H : Type} : Lit × DataW H → Nat
  | (.string bytes, d) => bytes.length + uptoBulk d + 1
  | (_, d) => uptoBulk d + 1
 end
def uptoSmall : (H : Type) → List (DataW H) → Bool := fun _ ds => decide (uptoBulkAll ds ≤ 1048576)
def OpenSpec.upto (s : _root_.Go.ChangeSpec) : _root_.Go.OpenSpec := { _root_.Go.OpenSpec.ofChange s with cond := some uptoSmall }

/-- 'laws.FnExactRolesOf', WHERE WHAT IT READS IS OF BULK AT MOST 1048576: true; the input reads as it did. -/
def fnExactRolesOfUptoRow : OpenClaim := { program := "ytgmgoabohppkeaa", sum := "b29ab61db8ee981385c228e5bc3f3bdb23d17f28b08e8e942c4ade29ced12a80", func := "loop.example/g00594/laws.FnExactRolesOf", spec := "fnExactRolesOf", recurses := true, apart := false, narrowed := true }
def FnExactRolesOfUptoSaid : Prop := fnExactRolesOfUptoRow.holds Try.pinned (OpenSpec.upto fnExactRolesOfSpec)

/-- 'laws.FnExactArePairs', WHERE WHAT IT READS IS OF BULK AT MOST 1048576: true; the input reads as it did. -/
def fnExactArePairsUptoRow : OpenClaim := { program := "ytgmgoabohppkeaa", sum := "b29ab61db8ee981385c228e5bc3f3bdb23d17f28b08e8e942c4ade29ced12a80", func := "loop.example/g00594/laws.FnExactArePairs", spec := "fnExactArePairs", apart := false, narrowed := true }
def FnExactArePairsUptoSaid : Prop := fnExactArePairsUptoRow.holds Try.pinned (OpenSpec.upto fnExactArePairsSpec)

/-- 'laws.FnExactTopRoles', WHERE WHAT IT READS IS OF BULK AT MOST 1048576: true; the input reads as it did. -/
def fnExactTopRolesUptoRow : OpenClaim := { program := "ytgmgoabohppkeaa", sum := "b29ab61db8ee981385c228e5bc3f3bdb23d17f28b08e8e942c4ade29ced12a80", func := "loop.example/g00594/laws.FnExactTopRoles", spec := "fnExactTopRoles", unfollowed := true, recurses := true, apart := false, narrowed := true }
def FnExactTopRolesUptoSaid : Prop := fnExactTopRolesUptoRow.holds Try.pinned (OpenSpec.upto fnExactTopRolesSpec)

/-- 'laws.FnExactRolesUnder', WHERE WHAT IT READS IS OF BULK AT MOST 1048576: true; the input reads as it did. -/
def fnExactRolesUnderUptoRow : OpenClaim := { program := "ytgmgoabohppkeaa", sum := "b29ab61db8ee981385c228e5bc3f3bdb23d17f28b08e8e942c4ade29ced12a80", func := "loop.example/g00594/laws.FnExactRolesUnder", spec := "fnExactRolesUnder", apart := false, narrowed := true }
def FnExactRolesUnderUptoSaid : Prop := fnExactRolesUnderUptoRow.holds Try.pinned (OpenSpec.upto fnExactRolesUnderSpec)

/-- 'laws.FnExactAddRevoked', WHERE WHAT IT READS IS OF BULK AT MOST 1048576: true; the input reads as it did. -/
def fnExactAddRevokedUptoRow : OpenClaim := { program := "ytgmgoabohppkeaa", sum := "b29ab61db8ee981385c228e5bc3f3bdb23d17f28b08e8e942c4ade29ced12a80", func := "loop.example/g00594/laws.FnExactAddRevoked", spec := "fnExactAddRevoked", inPlace := ["slices.overlaps[loop.example/g00594/impl.Revoked]"], apart := false, narrowed := true }
def FnExactAddRevokedUptoSaid : Prop := fnExactAddRevokedUptoRow.holds Try.pinned (OpenSpec.upto fnExactAddRevokedSpec)

/-- 'laws.FnExactMergeRevoked', WHERE WHAT IT READS IS OF BULK AT MOST 1048576: true; the input reads as it did. -/
def fnExactMergeRevokedUptoRow : OpenClaim := { program := "ytgmgoabohppkeaa", sum := "b29ab61db8ee981385c228e5bc3f3bdb23d17f28b08e8e942c4ade29ced12a80", func := "loop.example/g00594/laws.FnExactMergeRevoked", spec := "fnExactMergeRevoked", inPlace := ["slices.overlaps[loop.example/g00594/impl.Revoked]"], apart := false, narrowed := true }
def FnExactMergeRevokedUptoSaid : Prop := fnExactMergeRevokedUptoRow.holds Try.pinned (OpenSpec.upto fnExactMergeRevokedSpec)

/-- 'laws.FnRevocation', WHERE WHAT IT READS IS OF BULK AT MOST 1048576: true; the input reads as it did. -/
def fnRevocationUptoRow : OpenClaim := { program := "ytgmgoabohppkeaa", sum := "b29ab61db8ee981385c228e5bc3f3bdb23d17f28b08e8e942c4ade29ced12a80", func := "loop.example/g00594/laws.FnRevocation", spec := "fnRevocation", inPlace := ["slices.overlaps[loop.example/g00594/impl.Revoked]"], unfollowed := true, recurses := true, apart := false, narrowed := true }
def FnRevocationUptoSaid : Prop := fnRevocationUptoRow.holds Try.pinned (OpenSpec.upto fnRevocationSpec)

/-- 'laws.FnExactIsAccepted', WHERE WHAT IT READS IS OF BULK AT MOST 1048576: true; the input reads as it did. -/
def fnExactIsAcceptedUptoRow : OpenClaim := { program := "ytgmgoabohppkeaa", sum := "b29ab61db8ee981385c228e5bc3f3bdb23d17f28b08e8e942c4ade29ced12a80", func := "loop.example/g00594/laws.FnExactIsAccepted", spec := "fnExactIsAccepted", recurses := true, apart := false, narrowed := true }
def FnExactIsAcceptedUptoSaid : Prop := fnExactIsAcceptedUptoRow.holds Try.pinned (OpenSpec.upto fnExactIsAcceptedSpec)

/-- 'laws.FnExactAcceptedUntil', WHERE WHAT IT READS IS OF BULK AT MOST 1048576: true; the input reads as it did. -/
def fnExactAcceptedUntilUptoRow : OpenClaim := { program := "ytgmgoabohppkeaa", sum := "b29ab61db8ee981385c228e5bc3f3bdb23d17f28b08e8e942c4ade29ced12a80", func := "loop.example/g00594/laws.FnExactAcceptedUntil", spec := "fnExactAcceptedUntil", recurses := true, apart := false, narrowed := true }
def FnExactAcceptedUntilUptoSaid : Prop := fnExactAcceptedUntilUptoRow.holds Try.pinned (OpenSpec.upto fnExactAcceptedUntilSpec)

/-- 'laws.FnExactWhoState', WHERE WHAT IT READS IS OF BULK AT MOST 1048576: true; the input reads as it did. -/
def fnExactWhoStateUptoRow : OpenClaim := { program := "ytgmgoabohppkeaa", sum := "b29ab61db8ee981385c228e5bc3f3bdb23d17f28b08e8e942c4ade29ced12a80", func := "loop.example/g00594/laws.FnExactWhoState", spec := "fnExactWhoState", recurses := true, apart := false, narrowed := true }
def FnExactWhoStateUptoSaid : Prop := fnExactWhoStateUptoRow.holds Try.pinned (OpenSpec.upto fnExactWhoStateSpec)

/-- 'laws.FnExactHasRole', WHERE WHAT IT READS IS OF BULK AT MOST 1048576: true; the input reads as it did. -/
def fnExactHasRoleUptoRow : OpenClaim := { program := "ytgmgoabohppkeaa", sum := "b29ab61db8ee981385c228e5bc3f3bdb23d17f28b08e8e942c4ade29ced12a80", func := "loop.example/g00594/laws.FnExactHasRole", spec := "fnExactHasRole", recurses := true, apart := false, narrowed := true }
def FnExactHasRoleUptoSaid : Prop := fnExactHasRoleUptoRow.holds Try.pinned (OpenSpec.upto fnExactHasRoleSpec)

/-- 'laws.FnRoles', WHERE WHAT IT READS IS OF BULK AT MOST 1048576: true; the input reads as it did. -/
def fnRolesUptoRow : OpenClaim := { program := "ytgmgoabohppkeaa", sum := "b29ab61db8ee981385c228e5bc3f3bdb23d17f28b08e8e942c4ade29ced12a80", func := "loop.example/g00594/laws.FnRoles", spec := "fnRoles", unfollowed := true, recurses := true, apart := false, narrowed := true }
def FnRolesUptoSaid : Prop := fnRolesUptoRow.holds Try.pinned (OpenSpec.upto fnRolesSpec)

end Rows
end Go.Proofs.Ytgmgoabohppkeaa
