/- Written by this session's own program (wip/xprint, which runs over the kit's print): what the functions that the law reaches come to, each proved; and the law's row. Conditions: none. -/
import Derived.Test.YtlmhemcpkmjkiaaRows
import Derived.Test.YtlmhemcpkmjkiaaUFnExactHealthFactOpen
import Derived.Test.YtlmhemcpkmjkiaaUFnExactHealthFactx12
import Derived.Test.YtlmhemcpkmjkiaaUFnExactHealthFactPure
import Derived.WalkKit
import Derived.ProofKit
import Derived.OpenShut
import Derived.ShutString
import Derived.ChangeOld
import Derived.Below
import Derived.SizedLaws
namespace Go.Proofs.Ytlmhemcpkmjkiaa.fnExactHealthFact
open Go.ChangeShapes Go.WideShapes Go.ChangeAt Go.RowKit Go.Proofs.YtlmhemcpkmjkiaaOpen Go.Proofs.Ytlmhemcpkmjkiaa.XFnExactHealthFact Go.Proofs.YtlmhemcpkmjkiaaW.PrintWords
open Go.ChangeMaps (open_string shut_string)
set_option linter.unusedVariables false
theorem own : ownKnob Try.prog.godebug = none := by kernel_rfl
theorem laidOut : laidOutB Try.prog = true := by kernel_rfl
theorem opens30 : Opens Try.prog 30 k30 wf30 := by
  intro n
  refine OpensF.le (n := n + 1) ?_ (Nat.le_succ n)
  exact OpensF.weak (opens_iso (fun y => ⟨y.1, y.2.1, y.2.2.1, y.2.2.2⟩) (fun _ => rfl) (opens_struct Try.underlying30 (by kernel_rfl) (FO_cons rfl (by kernel_rfl) ((opens_int Try.underlying3) _) (FO_cons rfl (by kernel_rfl) ((Opens.slice Try.underlying28 (by kernel_rfl) (opens_int Try.underlying3)) _) (FO_cons rfl (by kernel_rfl) ((Opens.slice Try.underlying28 (by kernel_rfl) (opens_int Try.underlying3)) _) (FO_one rfl (by kernel_rfl) ((Opens.slice Try.underlying28 (by kernel_rfl) (opens_int Try.underlying3)) _))))))) (fun _ h => h)
theorem opens50 : Opens Try.prog 50 k50 wf50 := by
  intro n
  refine OpensF.le (n := n + 1) ?_ (Nat.le_succ n)
  exact OpensF.weak (opens_iso (fun y => ⟨y.1, y.2.1, y.2.2.1, y.2.2.2.1, y.2.2.2.2⟩) (fun _ => rfl) (opens_struct Try.underlying50 (by kernel_rfl) (FO_cons rfl (by kernel_rfl) ((opens_int Try.underlying3) _) (FO_cons rfl (by kernel_rfl) ((opens_int Try.underlying3) _) (FO_cons rfl (by kernel_rfl) ((opens_int Try.underlying3) _) (FO_cons rfl (by kernel_rfl) ((opens_int Try.underlying3) _) (FO_one rfl (by kernel_rfl) ((opens_int Try.underlying3) _)))))))) (fun _ h => h)
set_option maxRecDepth 100000 in
theorem lifted (os : Os) (started : os.Started) (H : Type) (enc : TypeId × Value → H) :
    ReturnsInHanded {} Try.checked os 14 .any (Rows.fnExactHealthFactSpec.pre6 enc Try.prog Try.f14 Rows.fnExactHealthFactRow.domain false) (Rows.fnExactHealthFactSpec.post enc Try.prog Try.f14 false true false false) := by
  refine returnsInHanded_of_change_sized (C := Try.checked) own started (by kernel_rfl) Try.func14
    (ChangeSpec.witness6 (enc := enc) (C := Try.checked) false ⟨#[], #[.agg #[.int .i64 0, .slice none 0 0, .slice none 0 0, .slice none 0 0], .int .i64 0, .agg #[.int .i64 0, .int .i64 0, .int .i64 0, .int .i64 0, .int .i64 0], .slice none 0 0, .int .i64 0, .int .i64 0, .int .i64 0], []⟩ 8 (by kernel_rfl) (by kernel_rfl) (by kernel_rfl) (by kernel_rfl)) ?_
  intro W base args ds gs before hval0 hW hcnd hsz0 _
  have hsz : (DataW.weightsEach Try.prog (Try.f14.params.toList ++ Rows.fnExactHealthFactSpec.plain.varTypes Try.prog) (ds ++ gs)).all (· ≤ reachBytes) = true := hsz0
  have hval : ∀ (j : Nat) t v, Try.f14.params[j]? = some t → args[j]? = some v → Value.okWide Try.prog W .any base t v := hval0
  have hW' := hW
  obtain ⟨p, q, hA0, hV, rfl, hfz, hnd⟩ := hW
  have hA : DataW.TrodAll enc Try.prog W 0 (fun _ => true) true Try.f14.params.toList args.toList ds p := hA0
  rw [Try.params14] at hA hval hsz
  obtain ⟨v0, vs0, d0, ds0, p0, q0, hargs, rfl, rfl, h0, r0⟩ := trodAll_cons hA
  obtain ⟨v1, vs1, d1, ds1, p1, q1, rfl, rfl, rfl, h1, r1⟩ := trodAll_cons r0
  obtain ⟨v2, vs2, d2, ds2, p2, q2, rfl, rfl, rfl, h2, r2⟩ := trodAll_cons r1
  obtain ⟨v3, vs3, d3, ds3, p3, q3, rfl, rfl, rfl, h3, r3⟩ := trodAll_cons r2
  obtain ⟨v4, vs4, d4, ds4, p4, q4, rfl, rfl, rfl, h4, r4⟩ := trodAll_cons r3
  obtain ⟨v5, vs5, d5, ds5, p5, q5, rfl, rfl, rfl, h5, r5⟩ := trodAll_cons r4
  obtain ⟨v6, vs6, d6, ds6, p6, q6, rfl, rfl, rfl, h6, r6⟩ := trodAll_cons r5
  obtain ⟨rfl, rfl, rfl⟩ := trodAll_nil r6
  obtain rfl : args = #[v0, v1, v2, v3, v4, v5, v6] := by cases args; simp_all
  obtain ⟨rfl, rfl⟩ := trodVars_none hV
  obtain ⟨cs0, rfl, hz0⟩ := okWide_struct Try.underlying30 (hval 0 30 v0 rfl rfl)
  have k0 := h0
  have lt0 : ∀ x ∈ p0, x.block < W.heap.size := by obtain ⟨m, hm⟩ := k0; exact DataW.trod_lt m _ _ _ hm
  obtain ⟨y0, K0, w0⟩ := opened opens30 h0
  obtain ⟨A0_1, c0_1, A0_2, c0_2, A0_3, c0_3, e0, l0_1, g0_1, l0_2, g0_2, l0_3, g0_3⟩ := k30_open K0
  rw [cells_agg] at e0
  obtain rfl : cs0 = #[.int .i64 y0.f0, .slice A0_1 y0.f1.length c0_1, .slice A0_2 y0.f2.length c0_2, .slice A0_3 y0.f3.length c0_3] := by apply Array.ext'; rw [e0]
  obtain ⟨a1, rfl, rfl, rfl, w1⟩ := open_int Try.underlying3 (hval 1 3 v1 rfl rfl) h1
  obtain ⟨cs2, rfl, hz2⟩ := okWide_struct Try.underlying50 (hval 2 50 v2 rfl rfl)
  have k2 := h2
  have lt2 : ∀ x ∈ p2, x.block < W.heap.size := by obtain ⟨m, hm⟩ := k2; exact DataW.trod_lt m _ _ _ hm
  obtain ⟨y2, K2, w2⟩ := opened opens50 h2
  obtain e2 := k50_open K2
  rw [cells_agg] at e2
  obtain rfl : cs2 = #[.int .i64 y2.f0, .int .i64 y2.f1, .int .i64 y2.f2, .int .i64 y2.f3, .int .i64 y2.f4] := by apply Array.ext'; rw [e2]
  obtain ⟨a3, len3, cap3, rfl⟩ := okWide_slice Try.underlying28 (hval 3 28 v3 rfl rfl)
  have k3 := h3
  have lt3 : ∀ x ∈ p3, x.block < W.heap.size := by obtain ⟨m, hm⟩ := k3; exact DataW.trod_lt m _ _ _ hm
  obtain ⟨l3, rfl, hc3, hC3, w3⟩ := opened_slice (Opens.slice Try.underlying28 (by kernel_rfl) (opens_int Try.underlying3)) h3
  obtain ⟨a4, rfl, rfl, rfl, w4⟩ := open_int Try.underlying3 (hval 4 3 v4 rfl rfl) h4
  obtain ⟨a5, rfl, rfl, rfl, w5⟩ := open_int Try.underlying3 (hval 5 3 v5 rfl rfl) h5
  obtain ⟨a6, rfl, rfl, rfl, w6⟩ := open_int Try.underlying3 (hval 6 3 v6 rfl rfl) h6
  clear hA0 hval0 hsz0 hsz
  obtain ⟨k, h⟩ := Pure.FnExactHealthFact y0.f0 y0.f1 y0.f2 y0.f3 a1 y2.f0 y2.f1 y2.f2 y2.f3 y2.f4 l3 a4 a5 a6 w0.1 w0.2.1 w0.2.2.1 w0.2.2.2 w1 w2.1 w2.2.1 w2.2.2.1 w2.2.2.2.1 w2.2.2.2.2 w3 w4 w5 w6
  refine (laws_FnExactHealthFact.calls k y0.f0 _ _ y0.f1 _ _ y0.f2 _ _ y0.f3 a1 y2.f0 y2.f1 y2.f2 y2.f3 y2.f4 _ _ l3 a4 a5 a6 true W g0_1 l0_1 g0_2 l0_2 g0_3 l0_3 hC3 hc3 h ⟨rfl⟩).mono fun e W' ⟨he, bel0⟩ => ?_
  subst he
  have bel : Below W.heap.size W W' := bel0
  exact ⟨_, rfl, _, _, _, [], _, [], hW', trodAll_mk1 (shut_bool Try.underlying4 _), (trodAll_cons_mk (Below.trod laidOut (by kernel_rfl) (of_decide_eq_true (by kernel_rfl)) k0 bel lt0) (trodAll_cons_mk (shut_int Try.underlying3 w1) (trodAll_cons_mk (Below.trod laidOut (by kernel_rfl) (of_decide_eq_true (by kernel_rfl)) k2 bel lt2) (trodAll_cons_mk (Below.trod laidOut (by kernel_rfl) (of_decide_eq_true (by kernel_rfl)) k3 bel lt3) (trodAll_cons_mk (shut_int Try.underlying3 w4) (trodAll_cons_mk (shut_int Try.underlying3 w5) (trodAll_cons_mk (shut_int Try.underlying3 w6) trodAll_mk0))))))), rfl, bel.frame _, fun h => by cases h⟩
theorem over : Rows.fnExactHealthFactRow.holds Try.pinned (OpenSpec.ofChange Rows.fnExactHealthFactSpec) :=
  OpenClaim.holds_of_wide 14 Try.f14 rfl rfl rfl rfl rfl rfl rfl ⟨rfl, rfl, rfl, rfl, rfl⟩ rfl rfl rfl rfl rfl (by kernel_rfl) Try.func14 (by kernel_rfl)
    (of_decide_eq_true (by kernel_rfl)) (by unfold Func.isWrapper; first | (rw [if_pos (by decide +kernel)]; kernel_rfl) | (rw [if_neg (by decide +kernel)]; exact ⟨rfl, rfl⟩))
    (fun os started H enc _ => lifted os started H enc)
theorem proved : Rows.FnExactHealthFactSaid := over
#print axioms proved
end Go.Proofs.Ytlmhemcpkmjkiaa.fnExactHealthFact
namespace Go.Proofs.Ytlmhemcpkmjkiaa
/-- The row, under a short name, for the claim. -/
theorem fnExactHealthFact_holds : Rows.FnExactHealthFactSaid := fnExactHealthFact.proved
end Go.Proofs.Ytlmhemcpkmjkiaa
