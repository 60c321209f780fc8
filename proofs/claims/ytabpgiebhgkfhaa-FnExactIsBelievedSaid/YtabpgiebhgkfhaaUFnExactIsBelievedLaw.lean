/- Written by this session's own program (wip/xprint, which runs over the kit's print): what the functions that the law reaches come to, each proved; and the law's row. Conditions: none. -/
import Derived.Test.YtabpgiebhgkfhaaRows
import Derived.Test.YtabpgiebhgkfhaaUFnExactIsBelievedOpen
import Derived.Test.YtabpgiebhgkfhaaUFnExactIsBelievedx11
import Derived.Test.YtabpgiebhgkfhaaUFnExactIsBelievedPure
import Derived.WalkKit
import Derived.ProofKit
import Derived.OpenShut
import Derived.ShutString
import Derived.ChangeOld
import Derived.Below
import Derived.SizedLaws
namespace Go.Proofs.Ytabpgiebhgkfhaa.fnExactIsBelieved
open Go.ChangeShapes Go.WideShapes Go.ChangeAt Go.RowKit Go.Proofs.YtabpgiebhgkfhaaOpen Go.Proofs.Ytabpgiebhgkfhaa.XFnExactIsBelieved Go.Proofs.YtabpgiebhgkfhaaW.PrintWords
open Go.ChangeMaps (open_string shut_string)
set_option linter.unusedVariables false
theorem own : ownKnob Try.prog.godebug = none := by kernel_rfl
theorem laidOut : laidOutB Try.prog = true := by kernel_rfl
theorem opens45 : Opens Try.prog 45 k45 wf45 := by
  intro n
  refine OpensF.le (n := n + 1) ?_ (Nat.le_succ n)
  exact OpensF.weak (opens_iso (fun y => ⟨y.1, y.2.1, y.2.2⟩) (fun _ => rfl) (opens_struct Try.underlying45 (by kernel_rfl) (FO_cons rfl (by kernel_rfl) ((opens_int Try.underlying3) _) (FO_cons rfl (by kernel_rfl) ((Opens.slice Try.underlying43 (by kernel_rfl) (opens_int Try.underlying3)) _) (FO_one rfl (by kernel_rfl) ((opens_int Try.underlying3) _)))))) (fun _ h => h)
theorem opens53 : Opens Try.prog 53 k53 wf53 := by
  intro n
  refine OpensF.le (n := n + 1) ?_ (Nat.le_succ n)
  exact OpensF.weak (opens_iso (fun y => ⟨y.1, y.2.1, y.2.2.1, y.2.2.2.1, y.2.2.2.2.1, y.2.2.2.2.2⟩) (fun _ => rfl) (opens_struct Try.underlying53 (by kernel_rfl) (FO_cons rfl (by kernel_rfl) ((opens_int Try.underlying3) _) (FO_cons rfl (by kernel_rfl) ((opens_int Try.underlying3) _) (FO_cons rfl (by kernel_rfl) ((opens_int Try.underlying3) _) (FO_cons rfl (by kernel_rfl) ((opens_int Try.underlying3) _) (FO_cons rfl (by kernel_rfl) ((opens_int Try.underlying3) _) (FO_one rfl (by kernel_rfl) ((opens_int Try.underlying3) _))))))))) (fun _ h => h)
theorem opens82 : Opens Try.prog 82 k82 wf82 := by
  intro n
  refine OpensF.le (n := n + 1) ?_ (Nat.le_succ n)
  exact OpensF.weak (opens_iso (fun y => ⟨y.1, y.2⟩) (fun _ => rfl) (opens_struct Try.underlying82 (by kernel_rfl) (FO_cons rfl (by kernel_rfl) (opens53 _) (FO_one rfl (by kernel_rfl) ((opens_int Try.underlying3) _))))) (fun _ h => h)
set_option maxRecDepth 100000 in
theorem lifted (os : Os) (started : os.Started) (H : Type) (enc : TypeId × Value → H) :
    ReturnsInHanded {} Try.checked os 13 .any (Rows.fnExactIsBelievedSpec.pre6 enc Try.prog Try.f13 Rows.fnExactIsBelievedRow.domain false) (Rows.fnExactIsBelievedSpec.post enc Try.prog Try.f13 false true false false) := by
  refine returnsInHanded_of_change_sized (C := Try.checked) own started (by kernel_rfl) Try.func13
    (ChangeSpec.witness6 (enc := enc) (C := Try.checked) false ⟨#[], #[.slice none 0 0, .agg #[.int .i64 0, .int .i64 0, .int .i64 0, .int .i64 0, .int .i64 0, .int .i64 0, .int .i64 0]], []⟩ 8 (by kernel_rfl) (by kernel_rfl) (by kernel_rfl) (by kernel_rfl)) ?_
  intro W base args ds gs before hval0 hW hcnd hsz0 _
  have hsz : (DataW.weightsEach Try.prog (Try.f13.params.toList ++ Rows.fnExactIsBelievedSpec.plain.varTypes Try.prog) (ds ++ gs)).all (· ≤ reachBytes) = true := hsz0
  have hval : ∀ (j : Nat) t v, Try.f13.params[j]? = some t → args[j]? = some v → Value.okWide Try.prog W .any base t v := hval0
  have hW' := hW
  obtain ⟨p, q, hA0, hV, rfl, hfz, hnd⟩ := hW
  have hA : DataW.TrodAll enc Try.prog W 0 (fun _ => true) true Try.f13.params.toList args.toList ds p := hA0
  rw [Try.params13] at hA hval hsz
  obtain ⟨v0, vs0, d0, ds0, p0, q0, hargs, rfl, rfl, h0, r0⟩ := trodAll_cons hA
  obtain ⟨v1, vs1, d1, ds1, p1, q1, rfl, rfl, rfl, h1, r1⟩ := trodAll_cons r0
  obtain ⟨rfl, rfl, rfl⟩ := trodAll_nil r1
  obtain rfl : args = #[v0, v1] := by cases args; simp_all
  obtain ⟨rfl, rfl⟩ := trodVars_none hV
  obtain ⟨a0, len0, cap0, rfl⟩ := okWide_slice Try.underlying22 (hval 0 22 v0 rfl rfl)
  have k0 := h0
  have lt0 : ∀ x ∈ p0, x.block < W.heap.size := by obtain ⟨m, hm⟩ := k0; exact DataW.trod_lt m _ _ _ hm
  obtain ⟨l0, rfl, hc0, hC0, w0⟩ := opened_slice (Opens.slice Try.underlying22 (by kernel_rfl) opens45) h0
  obtain ⟨cs1, rfl, hz1⟩ := okWide_struct Try.underlying82 (hval 1 82 v1 rfl rfl)
  have k1 := h1
  have lt1 : ∀ x ∈ p1, x.block < W.heap.size := by obtain ⟨m, hm⟩ := k1; exact DataW.trod_lt m _ _ _ hm
  obtain ⟨y1, K1, w1⟩ := opened opens82 h1
  obtain e1 := k82_open K1
  rw [cells_agg] at e1
  obtain rfl : cs1 = #[.int .i64 y1.f0.f0, .int .i64 y1.f0.f1, .int .i64 y1.f0.f2, .int .i64 y1.f0.f3, .int .i64 y1.f0.f4, .int .i64 y1.f0.f5, .int .i64 y1.f1] := by apply Array.ext'; rw [e1]
  clear hA0 hval0 hsz0 hsz
  obtain ⟨k, h⟩ := Pure.FnExactIsBelieved l0 y1.f0.f0 y1.f0.f1 y1.f0.f2 y1.f0.f3 y1.f0.f4 y1.f0.f5 y1.f1 w0 w1.1.1 w1.1.2.1 w1.1.2.2.1 w1.1.2.2.2.1 w1.1.2.2.2.2.1 w1.1.2.2.2.2.2 w1.2
  refine (laws_FnExactIsBelieved.calls k _ _ l0 y1.f0.f0 y1.f0.f1 y1.f0.f2 y1.f0.f3 y1.f0.f4 y1.f0.f5 y1.f1 true W hC0 hc0 h).mono fun e W' ⟨he, bel0⟩ => ?_
  subst he
  have bel : Below W.heap.size W W' := bel0
  exact ⟨_, rfl, _, _, _, [], _, [], hW', trodAll_mk1 (shut_bool Try.underlying4 _), (trodAll_cons_mk (Below.trod laidOut (by kernel_rfl) (of_decide_eq_true (by kernel_rfl)) k0 bel lt0) (trodAll_cons_mk (Below.trod laidOut (by kernel_rfl) (of_decide_eq_true (by kernel_rfl)) k1 bel lt1) trodAll_mk0)), rfl, bel.frame _, fun h => by cases h⟩
theorem over : Rows.fnExactIsBelievedRow.holds Try.pinned (OpenSpec.ofChange Rows.fnExactIsBelievedSpec) :=
  OpenClaim.holds_of_wide 13 Try.f13 rfl rfl rfl rfl rfl rfl rfl ⟨rfl, rfl, rfl, rfl, rfl⟩ rfl rfl rfl rfl rfl (by kernel_rfl) Try.func13 (by kernel_rfl)
    (of_decide_eq_true (by kernel_rfl)) (by unfold Func.isWrapper; first | (rw [if_pos (by decide +kernel)]; kernel_rfl) | (rw [if_neg (by decide +kernel)]; exact ⟨rfl, rfl⟩))
    (fun os started H enc _ => lifted os started H enc)
theorem proved : Rows.FnExactIsBelievedSaid := over
#print axioms proved
end Go.Proofs.Ytabpgiebhgkfhaa.fnExactIsBelieved
namespace Go.Proofs.Ytabpgiebhgkfhaa
/-- The row, under a short name, for the claim. -/
theorem fnExactIsBelieved_holds : Rows.FnExactIsBelievedSaid := fnExactIsBelieved.proved
end Go.Proofs.Ytabpgiebhgkfhaa
