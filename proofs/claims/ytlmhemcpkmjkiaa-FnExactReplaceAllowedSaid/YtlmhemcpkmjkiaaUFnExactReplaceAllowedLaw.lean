/- Written by this session's own program (wip/xprint, which runs over the kit's print): what the functions that the law reaches come to, each proved; and the law's row. Conditions: none. -/
import Derived.Test.YtlmhemcpkmjkiaaRows
import Derived.Test.YtlmhemcpkmjkiaaUFnExactReplaceAllowedOpen
import Derived.Test.YtlmhemcpkmjkiaaUFnExactReplaceAllowedx8
import Derived.Test.YtlmhemcpkmjkiaaUFnExactReplaceAllowedPure
import Derived.WalkKit
import Derived.ProofKit
import Derived.OpenShut
import Derived.ShutString
import Derived.ChangeOld
import Derived.Below
import Derived.SizedLaws
namespace Go.Proofs.Ytlmhemcpkmjkiaa.fnExactReplaceAllowed
open Go.ChangeShapes Go.WideShapes Go.ChangeAt Go.RowKit Go.Proofs.YtlmhemcpkmjkiaaOpen Go.Proofs.Ytlmhemcpkmjkiaa.XFnExactReplaceAllowed Go.Proofs.YtlmhemcpkmjkiaaW.PrintWords
open Go.ChangeMaps (open_string shut_string)
set_option linter.unusedVariables false
theorem own : ownKnob Try.prog.godebug = none := by kernel_rfl
theorem laidOut : laidOutB Try.prog = true := by kernel_rfl
theorem opens30 : Opens Try.prog 30 k30 wf30 := by
  intro n
  refine OpensF.le (n := n + 1) ?_ (Nat.le_succ n)
  exact OpensF.weak (opens_iso (fun y => ⟨y.1, y.2.1, y.2.2.1, y.2.2.2⟩) (fun _ => rfl) (opens_struct Try.underlying30 (by kernel_rfl) (FO_cons rfl (by kernel_rfl) ((opens_int Try.underlying3) _) (FO_cons rfl (by kernel_rfl) ((Opens.slice Try.underlying28 (by kernel_rfl) (opens_int Try.underlying3)) _) (FO_cons rfl (by kernel_rfl) ((Opens.slice Try.underlying28 (by kernel_rfl) (opens_int Try.underlying3)) _) (FO_one rfl (by kernel_rfl) ((Opens.slice Try.underlying28 (by kernel_rfl) (opens_int Try.underlying3)) _))))))) (fun _ h => h)
set_option maxRecDepth 100000 in
theorem lifted (os : Os) (started : os.Started) (H : Type) (enc : TypeId × Value → H) :
    ReturnsInHanded {} Try.checked os 10 .any (Rows.fnExactReplaceAllowedSpec.pre6 enc Try.prog Try.f10 Rows.fnExactReplaceAllowedRow.domain false) (Rows.fnExactReplaceAllowedSpec.post enc Try.prog Try.f10 false true false false) := by
  refine returnsInHanded_of_change_sized (C := Try.checked) own started (by kernel_rfl) Try.func10
    (ChangeSpec.witness6 (enc := enc) (C := Try.checked) false ⟨#[], #[.agg #[.int .i64 0, .slice none 0 0, .slice none 0 0, .slice none 0 0], .agg #[.int .i64 0, .slice none 0 0, .slice none 0 0, .slice none 0 0]], []⟩ 8 (by kernel_rfl) (by kernel_rfl) (by kernel_rfl) (by kernel_rfl)) ?_
  intro W base args ds gs before hval0 hW hcnd hsz0 _
  have hsz : (DataW.weightsEach Try.prog (Try.f10.params.toList ++ Rows.fnExactReplaceAllowedSpec.plain.varTypes Try.prog) (ds ++ gs)).all (· ≤ reachBytes) = true := hsz0
  have hval : ∀ (j : Nat) t v, Try.f10.params[j]? = some t → args[j]? = some v → Value.okWide Try.prog W .any base t v := hval0
  have hW' := hW
  obtain ⟨p, q, hA0, hV, rfl, hfz, hnd⟩ := hW
  have hA : DataW.TrodAll enc Try.prog W 0 (fun _ => true) true Try.f10.params.toList args.toList ds p := hA0
  rw [Try.params10] at hA hval hsz
  obtain ⟨v0, vs0, d0, ds0, p0, q0, hargs, rfl, rfl, h0, r0⟩ := trodAll_cons hA
  obtain ⟨v1, vs1, d1, ds1, p1, q1, rfl, rfl, rfl, h1, r1⟩ := trodAll_cons r0
  obtain ⟨rfl, rfl, rfl⟩ := trodAll_nil r1
  obtain rfl : args = #[v0, v1] := by cases args; simp_all
  obtain ⟨rfl, rfl⟩ := trodVars_none hV
  obtain ⟨cs0, rfl, hz0⟩ := okWide_struct Try.underlying30 (hval 0 30 v0 rfl rfl)
  have k0 := h0
  have lt0 : ∀ x ∈ p0, x.block < W.heap.size := by obtain ⟨m, hm⟩ := k0; exact DataW.trod_lt m _ _ _ hm
  obtain ⟨y0, K0, w0⟩ := opened opens30 h0
  obtain ⟨A0_1, c0_1, A0_2, c0_2, A0_3, c0_3, e0, l0_1, g0_1, l0_2, g0_2, l0_3, g0_3⟩ := k30_open K0
  rw [cells_agg] at e0
  obtain rfl : cs0 = #[.int .i64 y0.f0, .slice A0_1 y0.f1.length c0_1, .slice A0_2 y0.f2.length c0_2, .slice A0_3 y0.f3.length c0_3] := by apply Array.ext'; rw [e0]
  obtain ⟨cs1, rfl, hz1⟩ := okWide_struct Try.underlying30 (hval 1 30 v1 rfl rfl)
  have k1 := h1
  have lt1 : ∀ x ∈ p1, x.block < W.heap.size := by obtain ⟨m, hm⟩ := k1; exact DataW.trod_lt m _ _ _ hm
  obtain ⟨y1, K1, w1⟩ := opened opens30 h1
  obtain ⟨A1_1, c1_1, A1_2, c1_2, A1_3, c1_3, e1, l1_1, g1_1, l1_2, g1_2, l1_3, g1_3⟩ := k30_open K1
  rw [cells_agg] at e1
  obtain rfl : cs1 = #[.int .i64 y1.f0, .slice A1_1 y1.f1.length c1_1, .slice A1_2 y1.f2.length c1_2, .slice A1_3 y1.f3.length c1_3] := by apply Array.ext'; rw [e1]
  clear hA0 hval0 hsz0 hsz
  obtain ⟨k, h⟩ := Pure.FnExactReplaceAllowed y0.f0 y0.f1 y0.f2 y0.f3 y1.f0 y1.f1 y1.f2 y1.f3 w0.1 w0.2.1 w0.2.2.1 w0.2.2.2 w1.1 w1.2.1 w1.2.2.1 w1.2.2.2
  refine (laws_FnExactReplaceAllowed.calls k y0.f0 _ _ y0.f1 _ _ y0.f2 _ _ y0.f3 y1.f0 _ _ y1.f1 _ _ y1.f2 _ _ y1.f3 true W g0_1 l0_1 g0_2 l0_2 g0_3 l0_3 g1_1 l1_1 g1_2 l1_2 g1_3 l1_3 h ⟨rfl⟩).mono fun e W' ⟨he, bel0⟩ => ?_
  subst he
  have bel : Below W.heap.size W W' := bel0
  exact ⟨_, rfl, _, _, _, [], _, [], hW', trodAll_mk1 (shut_bool Try.underlying4 _), (trodAll_cons_mk (Below.trod laidOut (by kernel_rfl) (of_decide_eq_true (by kernel_rfl)) k0 bel lt0) (trodAll_cons_mk (Below.trod laidOut (by kernel_rfl) (of_decide_eq_true (by kernel_rfl)) k1 bel lt1) trodAll_mk0)), rfl, bel.frame _, fun h => by cases h⟩
theorem over : Rows.fnExactReplaceAllowedRow.holds Try.pinned (OpenSpec.ofChange Rows.fnExactReplaceAllowedSpec) :=
  OpenClaim.holds_of_wide 10 Try.f10 rfl rfl rfl rfl rfl rfl rfl ⟨rfl, rfl, rfl, rfl, rfl⟩ rfl rfl rfl rfl rfl (by kernel_rfl) Try.func10 (by kernel_rfl)
    (of_decide_eq_true (by kernel_rfl)) (by unfold Func.isWrapper; first | (rw [if_pos (by decide +kernel)]; kernel_rfl) | (rw [if_neg (by decide +kernel)]; exact ⟨rfl, rfl⟩))
    (fun os started H enc _ => lifted os started H enc)
theorem proved : Rows.FnExactReplaceAllowedSaid := over
#print axioms proved
end Go.Proofs.Ytlmhemcpkmjkiaa.fnExactReplaceAllowed
namespace Go.Proofs.Ytlmhemcpkmjkiaa
/-- The row, under a short name, for the claim. -/
theorem fnExactReplaceAllowed_holds : Rows.FnExactReplaceAllowedSaid := fnExactReplaceAllowed.proved
end Go.Proofs.Ytlmhemcpkmjkiaa
