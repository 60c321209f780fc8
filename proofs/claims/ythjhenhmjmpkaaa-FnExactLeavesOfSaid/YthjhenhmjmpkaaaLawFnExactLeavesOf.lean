/- Written by this session's own program (wip/xprint, which runs over the kit's print): what the functions that the law reaches come to, each proved; and the law's row. Conditions: none. -/
import Derived.Test.YthjhenhmjmpkaaaRows
import Derived.Test.YthjhenhmjmpkaaaOpen
import Derived.Test.YthjhenhmjmpkaaaXFnExactLeavesOfx7
import Derived.Test.YthjhenhmjmpkaaaPureFnExactLeavesOf
import Derived.WalkKit
import Derived.ProofKit
import Derived.OpenShut
import Derived.ShutString
import Derived.ChangeOld
import Derived.Below
import Derived.SizedLaws
namespace Go.Proofs.Ythjhenhmjmpkaaa.fnExactLeavesOf
open Go.ChangeShapes Go.WideShapes Go.ChangeAt Go.RowKit Go.Proofs.YthjhenhmjmpkaaaOpen Go.Proofs.Ythjhenhmjmpkaaa.XFnExactLeavesOf Go.Proofs.YthjhenhmjmpkaaaW.PrintWords
open Go.ChangeMaps (open_string shut_string)
set_option linter.unusedVariables false
theorem own : ownKnob Try.prog.godebug = none := by kernel_rfl
theorem laidOut : laidOutB Try.prog = true := by kernel_rfl
theorem opens24 : Opens Try.prog 24 k24 wf24 := by
  intro n
  induction n with
  | zero =>
    intro fuel hf H enc w base spare held cs x ht
    obtain rfl : fuel = 0 := by omega
    simp [DataW.trod] at ht
  | succ n ih =>
    intro fuel hf H enc w base spare held cs x ht
    obtain ⟨⟨f0, f1, f2, f3⟩, hy, wy⟩ := opens_struct Try.underlying24 (by kernel_rfl) (FO_cons rfl (by kernel_rfl) ((opens_int Try.underlying3) _) (FO_cons rfl (by kernel_rfl) ((opens_int Try.underlying3) _) (FO_cons rfl (by kernel_rfl) ((opens_int Try.underlying3) _) (FO_one rfl (by kernel_rfl) (OpensF.le (opens_slice Try.underlying22 (by kernel_rfl) ih) (Nat.le_succ _)))))) fuel hf H enc w base spare held cs x ht
    obtain ⟨_, _, rfl, rfl, ⟨_, _, rfl, rfl, ⟨_, _, rfl, rfl, ⟨A3, c3, rfl, l3, g3⟩⟩⟩⟩ := hy
    obtain ⟨w0, w1, w2, ⟨w3, v3⟩⟩ := wy
    exact ⟨⟨f0, f1, f2, f3⟩, k24_mk w ⟨f0, f1, f2, f3⟩ l3 g3, wf24.mk f0 f1 f2 f3 w0 w1 w2 w3 v3⟩
set_option maxRecDepth 100000 in
theorem lifted (os : Os) (started : os.Started) (H : Type) (enc : TypeId × Value → H) :
    ReturnsInHanded {} Try.checked os 3 .any (Rows.fnExactLeavesOfSpec.pre6 enc Try.prog Try.f3 Rows.fnExactLeavesOfRow.domain false) (Rows.fnExactLeavesOfSpec.post enc Try.prog Try.f3 false true false false) := by
  refine returnsInHanded_of_change_sized (C := Try.checked) own started (by kernel_rfl) Try.func3
    (ChangeSpec.witness6 (enc := enc) (C := Try.checked) false ⟨#[], #[.agg #[.int .i64 0, .int .i64 0, .int .i64 0, .slice none 0 0]], []⟩ 8 (by kernel_rfl) (by kernel_rfl) (by kernel_rfl) (by kernel_rfl)) ?_
  intro W base args ds gs before hval0 hW hcnd hsz0 _
  have hsz : (DataW.weightsEach Try.prog (Try.f3.params.toList ++ Rows.fnExactLeavesOfSpec.plain.varTypes Try.prog) (ds ++ gs)).all (· ≤ reachBytes) = true := hsz0
  have hval : ∀ (j : Nat) t v, Try.f3.params[j]? = some t → args[j]? = some v → Value.okWide Try.prog W .any base t v := hval0
  have hW' := hW
  obtain ⟨p, q, hA0, hV, rfl, hfz, hnd⟩ := hW
  have hA : DataW.TrodAll enc Try.prog W 0 (fun _ => true) true Try.f3.params.toList args.toList ds p := hA0
  rw [Try.params3] at hA hval hsz
  obtain ⟨v0, vs0, d0, ds0, p0, q0, hargs, rfl, rfl, h0, r0⟩ := trodAll_cons hA
  obtain ⟨rfl, rfl, rfl⟩ := trodAll_nil r0
  obtain rfl : args = #[v0] := by cases args; simp_all
  obtain ⟨rfl, rfl⟩ := trodVars_none hV
  obtain ⟨cs0, rfl, hz0⟩ := okWide_struct Try.underlying24 (hval 0 24 v0 rfl rfl)
  have k0 := h0
  have lt0 : ∀ x ∈ p0, x.block < W.heap.size := by obtain ⟨m, hm⟩ := k0; exact DataW.trod_lt m _ _ _ hm
  obtain ⟨y0, K0, w0⟩ := opened opens24 h0
  obtain ⟨A0_3, c0_3, e0, l0_3, g0_3⟩ := k24_open K0
  rw [cells_agg] at e0
  obtain rfl : cs0 = #[.int .i64 y0.f0, .int .i64 y0.f1, .int .i64 y0.f2, .slice A0_3 y0.f3.length c0_3] := by apply Array.ext'; rw [e0]
  obtain ⟨x0_0, x0_1, x0_2, x0_3⟩ := y0
  obtain ⟨w0_0, w0_1, w0_2, w0_3⟩ : ((Lit.int .i64 x0_0).wf = true) ∧ ((Lit.int .i64 x0_1).wf = true) ∧ ((Lit.int .i64 x0_2).wf = true) ∧ ((x0_3.length ≤ maxLen ∧ ∀ y4 ∈ x0_3, wf24 y4)) := by cases w0; exact ⟨‹_›, ‹_›, ‹_›, ⟨‹_›, ‹_›⟩⟩
  clear hA0 hval0 hsz0 hsz
  obtain ⟨k, h⟩ := Pure.FnExactLeavesOf x0_0 x0_1 x0_2 x0_3 w0_0 w0_1 w0_2 w0_3
  refine (laws_FnExactLeavesOf.calls k x0_0 x0_1 x0_2 _ _ x0_3 true W g0_3 l0_3 h ⟨rfl⟩).mono fun e W' ⟨he, bel0⟩ => ?_
  subst he
  have bel : Below W.heap.size W W' := bel0
  exact ⟨_, rfl, _, _, _, [], _, [], hW', trodAll_mk1 (shut_bool Try.underlying4 _), (trodAll_cons_mk (Below.trod laidOut (by kernel_rfl) (of_decide_eq_true (by kernel_rfl)) k0 bel lt0) trodAll_mk0), rfl, bel.frame _, fun h => by cases h⟩
theorem over : Rows.fnExactLeavesOfRow.holds Try.pinned (OpenSpec.ofChange Rows.fnExactLeavesOfSpec) :=
  OpenClaim.holds_of_wide 3 Try.f3 rfl rfl rfl rfl rfl rfl rfl ⟨rfl, rfl, rfl, rfl, rfl⟩ rfl rfl rfl rfl rfl (by kernel_rfl) Try.func3 (by kernel_rfl)
    (of_decide_eq_true (by kernel_rfl)) (by unfold Func.isWrapper; first | (rw [if_pos (by decide +kernel)]; kernel_rfl) | (rw [if_neg (by decide +kernel)]; exact ⟨rfl, rfl⟩))
    (fun os started H enc _ => lifted os started H enc)
theorem proved : Rows.FnExactLeavesOfSaid := over
#print axioms proved
end Go.Proofs.Ythjhenhmjmpkaaa.fnExactLeavesOf
namespace Go.Proofs.Ythjhenhmjmpkaaa
/-- The row, under a short name, for the claim. -/
theorem fnExactLeavesOf_holds : Rows.FnExactLeavesOfSaid := fnExactLeavesOf.proved
end Go.Proofs.Ythjhenhmjmpkaaa
