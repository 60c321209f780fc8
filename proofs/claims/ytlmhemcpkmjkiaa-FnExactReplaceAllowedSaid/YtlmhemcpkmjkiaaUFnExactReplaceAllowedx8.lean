/- Written by this session's own program (wip/xprint, which runs over the kit's print): what the functions that the law reaches come to, each proved; and the law's row. Conditions: none. -/
import Derived.Test.YtlmhemcpkmjkiaaUFnExactReplaceAllowedSq
import Derived.Test.YtlmhemcpkmjkiaaUFnExactReplaceAllowedx0
import Derived.Test.YtlmhemcpkmjkiaaUFnExactReplaceAllowedx1
import Derived.Test.YtlmhemcpkmjkiaaUFnExactReplaceAllowedx4
import Derived.Test.YtlmhemcpkmjkiaaUFnExactReplaceAllowedx7
import Derived.Test.YtlmhemcpkmjkiaaUFnExactReplaceAllowedTree
namespace Go.Proofs.Ytlmhemcpkmjkiaa.XFnExactReplaceAllowed
open Go.RowKit Go.Proofs.YtlmhemcpkmjkiaaW.PrintWords Go.Proofs.YtlmhemcpkmjkiaaW.PrintLast Go.Proofs.YtlmhemcpkmjkiaaW.PrintMore Go.Proofs.YtlmhemcpkmjkiaaSq Go.Proofs.YtlmhemcpkmjkiaaTree
attribute [local go_sem] max2_int min2_int max_two min_two max_three min_three max_four min_four   -- for this text's walks alone
set_option linter.unusedVariables false
set_option linter.unusedSimpArgs false

/-! ### laws_FnExactReplaceAllowed: function 10 -/
-- XIMPORT Derived.Test.YtlmhemcpkmjkiaaTree
def laws_FnExactReplaceAllowed.f (k : Nat) (a0_0 : Int) (l0_1 : List Int) (l0_2 : List Int) (l0_3 : List Int) (a1_0 : Int) (l1_1 : List Int) (l1_2 : List Int) (l1_3 : List Int) : Option (Bool) := (laws_szAllowed.f a0_0 l0_1 l0_2 l0_3 1048576).bind fun t12 => (if t12 < 0 then some true else ((laws_szAllowed.f a1_0 l1_1 l1_2 l1_3 t12).bind fun t20 => (if t20 < 0 then some true else ((laws_toAllowed.f k a0_0 l0_1 l0_2 l0_3).bind fun (t25, t26, t27, t28) => ((laws_toAllowed.f k a1_0 l1_1 l1_2 l1_3).bind fun (t30, t31, t32, t33) => ((spec_ReplaceAllowed.f k t25 t26 t27 t28 t30 t31 t32 t33).bind fun (t35, t36, t37, t38, t39) => ((laws_toAllowed.f k a0_0 l0_1 l0_2 l0_3).bind fun (t168, t169, t170, t171) => ((laws_toAllowed.f k a1_0 l1_1 l1_2 l1_3).bind fun (t198, t199, t200, t201) => ((impl_ReplaceAllowed.f k t168 t169 t170 t171 t198 t199 t200 t201).bind fun (t232, t233, t234, t235, t236) => ((laws_eqAllowed.f k t232 t233 t234 t235 t35 t36 t37 t38).bind fun t267 => (if t267 = true then (if t39 = t236 then ((laws_toAllowed.f k a0_0 l0_1 l0_2 l0_3).bind fun (t273, t274, t275, t276) => ((laws_eqAllowed.f k t168 t169 t170 t171 t273 t274 t275 t276).bind fun t287 => (if t287 = true then ((laws_toAllowed.f k a1_0 l1_1 l1_2 l1_3).bind fun (t292, t293, t294, t295) => ((laws_eqAllowed.f k t198 t199 t200 t201 t292 t293 t294 t295).bind fun t306 => (if t306 = true then ((laws_markAllowed.f k t168 t169 t170 t171 1).bind fun (t314, t315, t316, t317) => ((laws_markAllowed.f k t198 t199 t200 t201 t314).bind fun (t327, t328, t329, t330) => (if t327 < 0 then some false else ((laws_eqAllowed.f k t232 t233 t234 t235 t35 t36 t37 t38).bind fun t345 => (if t345 = true then ((laws_markAllowed.f k t232 t233 t234 t235 1).bind fun (t354, t355, t356, t357) => ((laws_heldAllowed.f k t232 t355 t356 t357 1).bind fun t367 => (if t367 < 0 then some false else (if t354 = t367 then ((laws_toAllowed.f k a0_0 l0_1 l0_2 l0_3).bind fun (t373, t374, t375, t376) => ((laws_toAllowed.f k a1_0 l1_1 l1_2 l1_3).bind fun (t378, t379, t380, t381) => ((impl_ReplaceAllowed.f k t373 t374 t375 t376 t378 t379 t380 t381).bind fun (t383, t384, t385, t386, t387) => ((laws_eqAllowed.f k t383 t384 t385 t386 t35 t36 t37 t38).bind fun t520 => (if t520 = true then (if t39 = t387 then ((laws_heldAllowed.f k t232 t355 t356 t357 1).bind fun t529 => (if t529 < 0 then some false else (if t354 = t529 then (some true) else some false))) else some false) else some false))))) else some false)))) else some false))))) else some false))) else some false))) else some false) else some false)))))))))))
theorem z10_0 {Q : Prop} (g : Q := by rw [hw]; exact kept_cell (kept_cell (kept_cell (kept_cell (Kept.refl _ _) 0 _) 1 _) 2 _) 3 _) : Q := g
theorem z10_1 {Q : Prop} (g : Q := by simp only [putAll, Act.put, List.setIfInBounds_toArray, List.set_cons_zero, List.set_cons_succ]) : Q := g
set_option maxHeartbeats 8000000 in
set_option maxRecDepth 100000 in
theorem laws_FnExactReplaceAllowed.calls (k : Nat) (a0_0 : Int) (A0_1 : Option Addr) (c0_1 : Nat) (l0_1 : List Int) (A0_2 : Option Addr) (c0_2 : Nat) (l0_2 : List Int) (A0_3 : Option Addr) (c0_3 : Nat) (l0_3 : List Int) (a1_0 : Int) (A1_1 : Option Addr) (c1_1 : Nat) (l1_1 : List Int) (A1_2 : Option Addr) (c1_2 : Nat) (l1_2 : List Int) (A1_3 : Option Addr) (c1_3 : Nat) (l1_3 : List Int) (r : Bool) (w : World) (hr0_1 : Kd.C (Kd.int .i64) w A0_1 l0_1.length l0_1) (hc0_1 : l0_1.length ≤ c0_1) (hr0_2 : Kd.C (Kd.int .i64) w A0_2 l0_2.length l0_2) (hc0_2 : l0_2.length ≤ c0_2) (hr0_3 : Kd.C (Kd.int .i64) w A0_3 l0_3.length l0_3) (hc0_3 : l0_3.length ≤ c0_3) (hr1_1 : Kd.C (Kd.int .i64) w A1_1 l1_1.length l1_1) (hc1_1 : l1_1.length ≤ c1_1) (hr1_2 : Kd.C (Kd.int .i64) w A1_2 l1_2.length l1_2) (hc1_2 : l1_2.length ≤ c1_2) (hr1_3 : Kd.C (Kd.int .i64) w A1_3 l1_3.length l1_3) (hc1_3 : l1_3.length ≤ c1_3) (h : laws_FnExactReplaceAllowed.f k a0_0 l0_1 l0_2 l0_3 a1_0 l1_1 l1_2 l1_3 = some r) (hr_ : Aside0 (r = true)) :
  Calls Try.prog 10 #[.agg #[.int .i64 a0_0, .slice A0_1 l0_1.length c0_1, .slice A0_2 l0_2.length c0_2, .slice A0_3 l0_3.length c0_3], .agg #[.int .i64 a1_0, .slice A1_1 l1_1.length c1_1, .slice A1_2 l1_2.length c1_2, .slice A1_3 l1_3.length c1_3]] w fun e w' => e = .returned (.bool r) ∧ Below w.heap.size w w' := by
 obtain rfl := hr_.out
 have hu30 := Try.underlying30
 have hu33 := Try.underlying33
 have HR0_1 := Aside0.mk hr0_1
 have HC0_1 := Aside0.mk hc0_1
 clear hr0_1 hc0_1
 have HR0_2 := Aside0.mk hr0_2
 have HC0_2 := Aside0.mk hc0_2
 clear hr0_2 hc0_2
 have HR0_3 := Aside0.mk hr0_3
 have HC0_3 := Aside0.mk hc0_3
 clear hr0_3 hc0_3
 have HR1_1 := Aside0.mk hr1_1
 have HC1_1 := Aside0.mk hc1_1
 clear hr1_1 hc1_1
 have HR1_2 := Aside0.mk hr1_2
 have HC1_2 := Aside0.mk hc1_2
 clear hr1_2 hc1_2
 have HR1_3 := Aside0.mk hr1_3
 have HC1_3 := Aside0.mk hc1_3
 clear hr1_3 hc1_3
 have HB := Aside0.mk (Below.refl w.heap.size w)
 have HS : Aside0 (0 ≤ w.heap.size) := ⟨Nat.zero_le _⟩
 unfold laws_FnExactReplaceAllowed.f at h
 replace h := bA h; obtain ⟨t12, E11, h⟩ := h
 by_cases c18 : t12 < 0
 ·have cb_c18 : decide (t12 < 0) = true := decide_eq_true c18
  clear h
  go_enter Try.func10, Try.ntmps10
  go_wp2_with (first | ((with_reducible refine gate_dst (N := 2) rfl ?_); refine bx (N := 2) (cs := #[.int .i64 a0_0, .slice A0_1 l0_1.length c0_1, .slice A0_2 l0_2.length c0_2, .slice A0_3 l0_3.length c0_3]) (t := 30) ?_; intro g1 hg w2 hbox hb; have HZ3 : Aside0 (0 ≤ g1 ∧ w.heap.size ≤ g1) := ⟨by rw [hg]; exact ⟨HS.out, HB.out.size⟩⟩; replace HS := Z_b HS hb; replace HB := H_b HB hb; have HKg1 := Aside0.mk hbox; replace HS : Aside0 (g1 + 1 ≤ w2.heap.size) := ⟨blk_lt hbox⟩; clear hg hbox hb) | ((with_reducible refine gate_dst (N := 3) rfl ?_); refine bx (N := 3) (cs := #[.int .i64 a1_0, .slice A1_1 l1_1.length c1_1, .slice A1_2 l1_2.length c1_2, .slice A1_3 l1_3.length c1_3]) (t := 30) ?_; intro g4 hg w5 hbox hb; have HZ6 : Aside0 (g1 + 1 ≤ g4 ∧ w.heap.size ≤ g4) := ⟨by rw [hg]; exact ⟨HS.out, HB.out.size⟩⟩; replace HKg1 := B_b HKg1 hb; replace HS := Z_b HS hb; replace HB := H_b HB hb; have HKg4 := Aside0.mk hbox; replace HS : Aside0 (g4 + 1 ≤ w5.heap.size) := ⟨blk_lt hbox⟩; clear hg hbox hb; have hc7 : w5.cell? ⟨g1, 0, none⟩ = some (.int .i64 a0_0) := (blk_cell HKg1.out 0).trans rfl; have hc8 : w5.cell? ⟨g1, 1, none⟩ = some (.slice A0_1 l0_1.length c0_1) := (blk_cell HKg1.out 1).trans rfl; have hc9 : w5.cell? ⟨g1, 2, none⟩ = some (.slice A0_2 l0_2.length c0_2) := (blk_cell HKg1.out 2).trans rfl; have hc10 : w5.cell? ⟨g1, 3, none⟩ = some (.slice A0_3 l0_3.length c0_3) := (blk_cell HKg1.out 3).trans rfl) | ((with_reducible refine gate_callee (f := 20) rfl ?_); refine goesL_ (some 19) rfl rfl Try.func20 sqk rfl #[.agg #[.int .i64 a0_0, .slice A0_1 l0_1.length c0_1, .slice A0_2 l0_2.length c0_2, .slice A0_3 l0_3.length c0_3], .int .i64 1048576] rfl sqm ?_; (with_reducible refine (laws_szAllowed.calls a0_0 _ _ l0_1 _ _ l0_2 _ _ l0_3 1048576 t12 _ ?side1 ?side2 ?side3 ?side4 ?side5 ?side6 E11.out).mono ?_); (case side1 => exact Kd.C_below HR0_1.out HB.out); (case side2 => exact HC0_1.out); (case side3 => exact Kd.C_below HR0_2.out HB.out); (case side4 => exact HC0_2.out); (case side5 => exact Kd.C_below HR0_3.out HB.out); (case side6 => exact HC0_3.out); rintro e w13 ⟨rfl, hb⟩; refine ⟨_, rfl, ?_⟩; (try clear hc7 hc8 hc9 hc10); replace HKg1 := B_b HKg1 hb; replace HKg4 := B_b HKg4 hb; replace HS := Z_b HS hb; replace HB := H_b HB hb; clear hb; have hc14 : w13.cell? ⟨g4, 0, none⟩ = some (.int .i64 a1_0) := (blk_cell HKg4.out 0).trans rfl; have hc15 : w13.cell? ⟨g4, 1, none⟩ = some (.slice A1_1 l1_1.length c1_1) := (blk_cell HKg4.out 1).trans rfl; have hc16 : w13.cell? ⟨g4, 2, none⟩ = some (.slice A1_2 l1_2.length c1_2) := (blk_cell HKg4.out 2).trans rfl; have hc17 : w13.cell? ⟨g4, 3, none⟩ = some (.slice A1_3 l1_3.length c1_3) := (blk_cell HKg4.out 3).trans rfl))
  go_ret
  exact ⟨rfl, HB.out⟩
 rw [if_neg c18] at h
 have cb_c18 : decide (t12 < 0) = false := decide_eq_false c18
 clear c18
 replace h := bA h; obtain ⟨t20, E19, h⟩ := h
 by_cases c22 : t20 < 0
 ·have cb_c22 : decide (t20 < 0) = true := decide_eq_true c22
  clear h
  go_enter Try.func10, Try.ntmps10
  go_wp2_with (first | ((with_reducible refine gate_dst (N := 2) rfl ?_); refine bx (N := 2) (cs := #[.int .i64 a0_0, .slice A0_1 l0_1.length c0_1, .slice A0_2 l0_2.length c0_2, .slice A0_3 l0_3.length c0_3]) (t := 30) ?_; intro g1 hg w2 hbox hb; have HZ3 : Aside0 (0 ≤ g1 ∧ w.heap.size ≤ g1) := ⟨by rw [hg]; exact ⟨HS.out, HB.out.size⟩⟩; replace HS := Z_b HS hb; replace HB := H_b HB hb; have HKg1 := Aside0.mk hbox; replace HS : Aside0 (g1 + 1 ≤ w2.heap.size) := ⟨blk_lt hbox⟩; clear hg hbox hb) | ((with_reducible refine gate_dst (N := 3) rfl ?_); refine bx (N := 3) (cs := #[.int .i64 a1_0, .slice A1_1 l1_1.length c1_1, .slice A1_2 l1_2.length c1_2, .slice A1_3 l1_3.length c1_3]) (t := 30) ?_; intro g4 hg w5 hbox hb; have HZ6 : Aside0 (g1 + 1 ≤ g4 ∧ w.heap.size ≤ g4) := ⟨by rw [hg]; exact ⟨HS.out, HB.out.size⟩⟩; replace HKg1 := B_b HKg1 hb; replace HS := Z_b HS hb; replace HB := H_b HB hb; have HKg4 := Aside0.mk hbox; replace HS : Aside0 (g4 + 1 ≤ w5.heap.size) := ⟨blk_lt hbox⟩; clear hg hbox hb; have hc7 : w5.cell? ⟨g1, 0, none⟩ = some (.int .i64 a0_0) := (blk_cell HKg1.out 0).trans rfl; have hc8 : w5.cell? ⟨g1, 1, none⟩ = some (.slice A0_1 l0_1.length c0_1) := (blk_cell HKg1.out 1).trans rfl; have hc9 : w5.cell? ⟨g1, 2, none⟩ = some (.slice A0_2 l0_2.length c0_2) := (blk_cell HKg1.out 2).trans rfl; have hc10 : w5.cell? ⟨g1, 3, none⟩ = some (.slice A0_3 l0_3.length c0_3) := (blk_cell HKg1.out 3).trans rfl) | ((with_reducible refine gate_callee (f := 20) rfl ?_); refine goesL_ (some 19) rfl rfl Try.func20 sqk rfl #[.agg #[.int .i64 a0_0, .slice A0_1 l0_1.length c0_1, .slice A0_2 l0_2.length c0_2, .slice A0_3 l0_3.length c0_3], .int .i64 1048576] rfl sqm ?_; (with_reducible refine (laws_szAllowed.calls a0_0 _ _ l0_1 _ _ l0_2 _ _ l0_3 1048576 t12 _ ?side1 ?side2 ?side3 ?side4 ?side5 ?side6 E11.out).mono ?_); (case side1 => exact Kd.C_below HR0_1.out HB.out); (case side2 => exact HC0_1.out); (case side3 => exact Kd.C_below HR0_2.out HB.out); (case side4 => exact HC0_2.out); (case side5 => exact Kd.C_below HR0_3.out HB.out); (case side6 => exact HC0_3.out); rintro e w13 ⟨rfl, hb⟩; refine ⟨_, rfl, ?_⟩; (try clear hc7 hc8 hc9 hc10); replace HKg1 := B_b HKg1 hb; replace HKg4 := B_b HKg4 hb; replace HS := Z_b HS hb; replace HB := H_b HB hb; clear hb; have hc14 : w13.cell? ⟨g4, 0, none⟩ = some (.int .i64 a1_0) := (blk_cell HKg4.out 0).trans rfl; have hc15 : w13.cell? ⟨g4, 1, none⟩ = some (.slice A1_1 l1_1.length c1_1) := (blk_cell HKg4.out 1).trans rfl; have hc16 : w13.cell? ⟨g4, 2, none⟩ = some (.slice A1_2 l1_2.length c1_2) := (blk_cell HKg4.out 2).trans rfl; have hc17 : w13.cell? ⟨g4, 3, none⟩ = some (.slice A1_3 l1_3.length c1_3) := (blk_cell HKg4.out 3).trans rfl) | ((with_reducible refine gate_callee (f := 20) rfl ?_); refine goesL_ (some 24) rfl rfl Try.func20 sqk rfl #[.agg #[.int .i64 a1_0, .slice A1_1 l1_1.length c1_1, .slice A1_2 l1_2.length c1_2, .slice A1_3 l1_3.length c1_3], .int .i64 t12] rfl sqm ?_; (with_reducible refine (laws_szAllowed.calls a1_0 _ _ l1_1 _ _ l1_2 _ _ l1_3 t12 t20 _ ?side1 ?side2 ?side3 ?side4 ?side5 ?side6 E19.out).mono ?_); (case side1 => exact Kd.C_below HR1_1.out HB.out); (case side2 => exact HC1_1.out); (case side3 => exact Kd.C_below HR1_2.out HB.out); (case side4 => exact HC1_2.out); (case side5 => exact Kd.C_below HR1_3.out HB.out); (case side6 => exact HC1_3.out); rintro e w21 ⟨rfl, hb⟩; refine ⟨_, rfl, ?_⟩; (try clear hc14 hc15 hc16 hc17); replace HKg1 := B_b HKg1 hb; replace HKg4 := B_b HKg4 hb; replace HS := Z_b HS hb; replace HB := H_b HB hb; clear hb))
  go_ret
  exact ⟨rfl, HB.out⟩
 rw [if_neg c22] at h
 have cb_c22 : decide (t20 < 0) = false := decide_eq_false c22
 clear c22
 replace h := bA h; obtain ⟨⟨t25, t26, t27, t28⟩, E24, h⟩ := h; dsimp only at h
 replace h := bA h; obtain ⟨⟨t30, t31, t32, t33⟩, E29, h⟩ := h; dsimp only at h
 replace h := bA h; obtain ⟨⟨t35, t36, t37, t38, t39⟩, E34, h⟩ := h; dsimp only at h
 replace h := bA h; obtain ⟨⟨t168, t169, t170, t171⟩, E167, h⟩ := h; dsimp only at h
 replace h := bA h; obtain ⟨⟨t198, t199, t200, t201⟩, E197, h⟩ := h; dsimp only at h
 replace h := bA h; obtain ⟨⟨t232, t233, t234, t235, t236⟩, E231, h⟩ := h; dsimp only at h
 replace h := bA h; obtain ⟨t267, E266, h⟩ := h
 replace h := iY h; obtain ⟨c269, h⟩ := h; subst c269
 replace h := iY h; obtain ⟨c270, h⟩ := h; subst c270
 replace h := bA h; obtain ⟨⟨t273, t274, t275, t276⟩, E272, h⟩ := h; dsimp only at h
 replace h := bA h; obtain ⟨t287, E286, h⟩ := h
 replace h := iY h; obtain ⟨c289, h⟩ := h; subst c289
 replace h := bA h; obtain ⟨⟨t292, t293, t294, t295⟩, E291, h⟩ := h; dsimp only at h
 replace h := bA h; obtain ⟨t306, E305, h⟩ := h
 replace h := iY h; obtain ⟨c308, h⟩ := h; subst c308
 replace h := bA h; obtain ⟨⟨t314, t315, t316, t317⟩, E313, h⟩ := h; dsimp only at h
 replace h := bA h; obtain ⟨⟨t327, t328, t329, t330⟩, E326, h⟩ := h; dsimp only at h
 replace h := iN h; obtain ⟨c343, h⟩ := h
 have cb_c343 : decide (t327 < 0) = false := decide_eq_false c343
 clear c343
 replace h := bA h; obtain ⟨t345, E344, h⟩ := h
 replace h := iY h; obtain ⟨c347, h⟩ := h; subst c347
 replace h := bA h; obtain ⟨⟨t354, t355, t356, t357⟩, E353, h⟩ := h; dsimp only at h
 replace h := bA h; obtain ⟨t367, E366, h⟩ := h
 replace h := iN h; obtain ⟨c369, h⟩ := h
 have cb_c369 : decide (t367 < 0) = false := decide_eq_false c369
 clear c369
 replace h := iY h; obtain ⟨c370, h⟩ := h; subst c370
 replace h := bA h; obtain ⟨⟨t373, t374, t375, t376⟩, E372, h⟩ := h; dsimp only at h
 replace h := bA h; obtain ⟨⟨t378, t379, t380, t381⟩, E377, h⟩ := h; dsimp only at h
 replace h := bA h; obtain ⟨⟨t383, t384, t385, t386, t387⟩, E382, h⟩ := h; dsimp only at h
 replace h := bA h; obtain ⟨t520, E519, h⟩ := h
 replace h := iY h; obtain ⟨c522, h⟩ := h; subst c522
 replace h := iY h; obtain ⟨c527, h⟩ := h; subst c527
 replace h := bA h; obtain ⟨t529, E528, h⟩ := h
 replace h := iN h; obtain ⟨c531, h⟩ := h
 have cb_c531 : decide (t529 < 0) = false := decide_eq_false c531
 clear c531
 replace h := iY h; obtain ⟨c532, h⟩ := h; subst c532
 clear h
 go_enter Try.func10, Try.ntmps10
 go_wp2_with (first | ((with_reducible refine gate_dst (N := 2) rfl ?_); refine bx (N := 2) (cs := #[.int .i64 a0_0, .slice A0_1 l0_1.length c0_1, .slice A0_2 l0_2.length c0_2, .slice A0_3 l0_3.length c0_3]) (t := 30) ?_; intro g1 hg w2 hbox hb; have HZ3 : Aside0 (0 ≤ g1 ∧ w.heap.size ≤ g1) := ⟨by rw [hg]; exact ⟨HS.out, HB.out.size⟩⟩; replace HS := Z_b HS hb; replace HB := H_b HB hb; have HKg1 := Aside0.mk hbox; replace HS : Aside0 (g1 + 1 ≤ w2.heap.size) := ⟨blk_lt hbox⟩; clear hg hbox hb) | ((with_reducible refine gate_dst (N := 3) rfl ?_); refine bx (N := 3) (cs := #[.int .i64 a1_0, .slice A1_1 l1_1.length c1_1, .slice A1_2 l1_2.length c1_2, .slice A1_3 l1_3.length c1_3]) (t := 30) ?_; intro g4 hg w5 hbox hb; have HZ6 : Aside0 (g1 + 1 ≤ g4 ∧ w.heap.size ≤ g4) := ⟨by rw [hg]; exact ⟨HS.out, HB.out.size⟩⟩; replace HKg1 := B_b HKg1 hb; replace HS := Z_b HS hb; replace HB := H_b HB hb; have HKg4 := Aside0.mk hbox; replace HS : Aside0 (g4 + 1 ≤ w5.heap.size) := ⟨blk_lt hbox⟩; clear hg hbox hb; have hc7 : w5.cell? ⟨g1, 0, none⟩ = some (.int .i64 a0_0) := (blk_cell HKg1.out 0).trans rfl; have hc8 : w5.cell? ⟨g1, 1, none⟩ = some (.slice A0_1 l0_1.length c0_1) := (blk_cell HKg1.out 1).trans rfl; have hc9 : w5.cell? ⟨g1, 2, none⟩ = some (.slice A0_2 l0_2.length c0_2) := (blk_cell HKg1.out 2).trans rfl; have hc10 : w5.cell? ⟨g1, 3, none⟩ = some (.slice A0_3 l0_3.length c0_3) := (blk_cell HKg1.out 3).trans rfl) | ((with_reducible refine gate_callee (f := 20) rfl ?_); refine goesL_ (some 19) rfl rfl Try.func20 sqk rfl #[.agg #[.int .i64 a0_0, .slice A0_1 l0_1.length c0_1, .slice A0_2 l0_2.length c0_2, .slice A0_3 l0_3.length c0_3], .int .i64 1048576] rfl sqm ?_; (with_reducible refine (laws_szAllowed.calls a0_0 _ _ l0_1 _ _ l0_2 _ _ l0_3 1048576 t12 _ ?side1 ?side2 ?side3 ?side4 ?side5 ?side6 E11.out).mono ?_); (case side1 => exact Kd.C_below HR0_1.out HB.out); (case side2 => exact HC0_1.out); (case side3 => exact Kd.C_below HR0_2.out HB.out); (case side4 => exact HC0_2.out); (case side5 => exact Kd.C_below HR0_3.out HB.out); (case side6 => exact HC0_3.out); rintro e w13 ⟨rfl, hb⟩; refine ⟨_, rfl, ?_⟩; (try clear hc7 hc8 hc9 hc10); replace HKg1 := B_b HKg1 hb; replace HKg4 := B_b HKg4 hb; replace HS := Z_b HS hb; replace HB := H_b HB hb; clear hb; have hc14 : w13.cell? ⟨g4, 0, none⟩ = some (.int .i64 a1_0) := (blk_cell HKg4.out 0).trans rfl; have hc15 : w13.cell? ⟨g4, 1, none⟩ = some (.slice A1_1 l1_1.length c1_1) := (blk_cell HKg4.out 1).trans rfl; have hc16 : w13.cell? ⟨g4, 2, none⟩ = some (.slice A1_2 l1_2.length c1_2) := (blk_cell HKg4.out 2).trans rfl; have hc17 : w13.cell? ⟨g4, 3, none⟩ = some (.slice A1_3 l1_3.length c1_3) := (blk_cell HKg4.out 3).trans rfl) | ((with_reducible refine gate_callee (f := 20) rfl ?_); refine goesL_ (some 24) rfl rfl Try.func20 sqk rfl #[.agg #[.int .i64 a1_0, .slice A1_1 l1_1.length c1_1, .slice A1_2 l1_2.length c1_2, .slice A1_3 l1_3.length c1_3], .int .i64 t12] rfl sqm ?_; (with_reducible refine (laws_szAllowed.calls a1_0 _ _ l1_1 _ _ l1_2 _ _ l1_3 t12 t20 _ ?side1 ?side2 ?side3 ?side4 ?side5 ?side6 E19.out).mono ?_); (case side1 => exact Kd.C_below HR1_1.out HB.out); (case side2 => exact HC1_1.out); (case side3 => exact Kd.C_below HR1_2.out HB.out); (case side4 => exact HC1_2.out); (case side5 => exact Kd.C_below HR1_3.out HB.out); (case side6 => exact HC1_3.out); rintro e w21 ⟨rfl, hb⟩; refine ⟨_, rfl, ?_⟩; (try clear hc14 hc15 hc16 hc17); replace HKg1 := B_b HKg1 hb; replace HKg4 := B_b HKg4 hb; replace HS := Z_b HS hb; replace HB := H_b HB hb; clear hb))
 have hb := below_drew (Below.refl w21.heap.size w21)
 replace HKg1 := B_b HKg1 hb
 replace HKg4 := B_b HKg4 hb
 replace HS := Z_b HS hb
 replace HB := H_b HB hb
 clear hb
 refine start_ (n := 11) (S := fun w' => w'.cell? ⟨g1, 0, none⟩ = some (.int .i64 a0_0) ∧ w'.cell? ⟨g1, 1, none⟩ = some (.slice A0_1 l0_1.length c0_1) ∧ w'.cell? ⟨g1, 2, none⟩ = some (.slice A0_2 l0_2.length c0_2) ∧ w'.cell? ⟨g1, 3, none⟩ = some (.slice A0_3 l0_3.length c0_3) ∧ w'.cell? ⟨g4, 0, none⟩ = some (.int .i64 a1_0) ∧ w'.cell? ⟨g4, 1, none⟩ = some (.slice A1_1 l1_1.length c1_1) ∧ w'.cell? ⟨g4, 2, none⟩ = some (.slice A1_2 l1_2.length c1_2) ∧ w'.cell? ⟨g4, 3, none⟩ = some (.slice A1_3 l1_3.length c1_3)) (ds := []) #[false, false, false, false, false, false, false, false, false, false, false] sqk rfl rfl ⟨(blk_cell HKg1.out 0).trans rfl, (blk_cell HKg1.out 1).trans rfl, (blk_cell HKg1.out 2).trans rfl, (blk_cell HKg1.out 3).trans rfl, (blk_cell HKg4.out 0).trans rfl, (blk_cell HKg4.out 1).trans rfl, (blk_cell HKg4.out 2).trans rfl, (blk_cell HKg4.out 3).trans rfl⟩ (fun hHeld => ?_)
 generalize w21.drew = w23 at HKg1 HKg4 HB HS hHeld ⊢
 refine ta 0 28 ?_; refine ta 2 30 ?_
 refine join_ (σ := Value × Value × Value × Value × Value × Nat × Nat × Nat × Nat × Nat × Nat × Nat × Nat × Nat) 2 #[true, true, true, true, true, true, true, true, true, false, false] (fun s_ => [(29, s_.1), (31, s_.2.1), (32, .tuple #[.agg #[.int .i64 t35, (s_.2.2.1), (s_.2.2.2.1), (s_.2.2.2.2.1)], .bool t39]), (27, .tuple #[.agg #[.int .i64 t35, (s_.2.2.1), (s_.2.2.2.1), (s_.2.2.2.2.1)], .bool t39]), (33, .agg #[.int .i64 t35, (s_.2.2.1), (s_.2.2.2.1), (s_.2.2.2.2.1)]), (34, .bool t39), (6, .pointer (some ⟨s_.2.2.2.2.2.1, 0, none⟩))]) (fun s_ w' => (w'.cell? ⟨g1, 0, none⟩ = some (.int .i64 a0_0) ∧ w'.cell? ⟨g1, 1, none⟩ = some (.slice A0_1 l0_1.length c0_1) ∧ w'.cell? ⟨g1, 2, none⟩ = some (.slice A0_2 l0_2.length c0_2) ∧ w'.cell? ⟨g1, 3, none⟩ = some (.slice A0_3 l0_3.length c0_3) ∧ w'.cell? ⟨g4, 0, none⟩ = some (.int .i64 a1_0) ∧ w'.cell? ⟨g4, 1, none⟩ = some (.slice A1_1 l1_1.length c1_1) ∧ w'.cell? ⟨g4, 2, none⟩ = some (.slice A1_2 l1_2.length c1_2) ∧ w'.cell? ⟨g4, 3, none⟩ = some (.slice A1_3 l1_3.length c1_3)) ∧ (Kd.R (Kd.int .i64) 3 w' w.heap.size (fun x => (s_.2.2.2.2.2.2.1) ≤ x ∧ x < (s_.2.2.2.2.2.2.2.1)) (s_.2.2.1) t36) ∧ (Kd.R (Kd.int .i64) 3 w' w.heap.size (fun x => (s_.2.2.2.2.2.2.2.2.1) ≤ x ∧ x < (s_.2.2.2.2.2.2.2.2.2.1)) (s_.2.2.2.1) t37) ∧ (Kd.R (Kd.int .i64) 3 w' w.heap.size (fun x => (s_.2.2.2.2.2.2.2.2.2.2.1) ≤ x ∧ x < (s_.2.2.2.2.2.2.2.2.2.2.2.1)) (s_.2.2.2.2.1) t38) ∧ (w'.heap[g1]? = some (.cells #[.int .i64 a0_0, .slice A0_1 l0_1.length c0_1, .slice A0_2 l0_2.length c0_2, .slice A0_3 l0_3.length c0_3] 30 (0, 0))) ∧ (w'.heap[g4]? = some (.cells #[.int .i64 a1_0, .slice A1_1 l1_1.length c1_1, .slice A1_2 l1_2.length c1_2, .slice A1_3 l1_3.length c1_3] 30 (0, 0))) ∧ (w'.heap[s_.2.2.2.2.2.1]? = some (.cells #[.int .i64 0, .slice none 0 0, .slice none 0 0, .slice none 0 0] 33 (0, 0))) ∧ ((g4 + 1 ≤ (s_.2.2.2.2.2.2.2.2.2.2.2.2.1) ∧ (s_.2.2.2.2.2.2.2.2.2.2.2.2.1) ≤ (s_.2.2.2.2.2.2.1) ∧ (s_.2.2.2.2.2.2.1) ≤ (s_.2.2.2.2.2.2.2.1) ∧ (s_.2.2.2.2.2.2.2.1) ≤ (s_.2.2.2.2.2.2.2.2.2.2.2.2.2) ∧ (s_.2.2.2.2.2.2.2.2.2.2.2.2.1) ≤ (s_.2.2.2.2.2.2.2.2.1) ∧ (s_.2.2.2.2.2.2.2.2.1) ≤ (s_.2.2.2.2.2.2.2.2.2.1) ∧ (s_.2.2.2.2.2.2.2.2.2.1) ≤ (s_.2.2.2.2.2.2.2.2.2.2.2.2.2) ∧ (s_.2.2.2.2.2.2.2.2.2.2.2.2.1) ≤ (s_.2.2.2.2.2.2.2.2.2.2.1) ∧ (s_.2.2.2.2.2.2.2.2.2.2.1) ≤ (s_.2.2.2.2.2.2.2.2.2.2.2.1) ∧ (s_.2.2.2.2.2.2.2.2.2.2.2.1) ≤ (s_.2.2.2.2.2.2.2.2.2.2.2.2.2) ∧ g4 + 1 ≤ s_.2.2.2.2.2.1 ∧ (s_.2.2.2.2.2.1 + 1 ≤ (s_.2.2.2.2.2.2.2.2.2.2.2.2.1) ∨ (s_.2.2.2.2.2.2.2.2.2.2.2.2.2) ≤ s_.2.2.2.2.2.1) ∧ w.heap.size ≤ s_.2.2.2.2.2.1 ∧ (s_.2.2.2.2.2.2.2.2.2.2.2.2.2) ≤ w'.heap.size ∧ s_.2.2.2.2.2.1 + 1 ≤ w'.heap.size)) ∧ ((((s_.2.2.2.2.2.2.2.1) ≤ (s_.2.2.2.2.2.2.2.2.1) ∨ (s_.2.2.2.2.2.2.2.2.2.1) ≤ (s_.2.2.2.2.2.2.1)) ∧ ((s_.2.2.2.2.2.2.2.1) ≤ (s_.2.2.2.2.2.2.2.2.2.2.1) ∨ (s_.2.2.2.2.2.2.2.2.2.2.2.1) ≤ (s_.2.2.2.2.2.2.1)) ∧ ((s_.2.2.2.2.2.2.2.2.2.1) ≤ (s_.2.2.2.2.2.2.2.2.2.2.1) ∨ (s_.2.2.2.2.2.2.2.2.2.2.2.1) ≤ (s_.2.2.2.2.2.2.2.2.1)))) ∧ (Below w.heap.size w w')) ?_ ?_
 rotate_left
 ·intro hCont
  refine two_ (i := 1) (j := 8) (Ni := some 29) (Nj := some 6) #[true, true, true, false, false, false, false, false, false, false, false] #[true, false, true, false, false, false, false, false, true, false, false] rfl rfl rfl rfl sqk (by decide) (by decide) (fun K hK => ?_) (fun K hK => ?_)
  ·skip
   refine goes_ Try.func22 sqk rfl #[.agg #[.int .i64 a0_0, .slice A0_1 l0_1.length c0_1, .slice A0_2 l0_2.length c0_2, .slice A0_3 l0_3.length c0_3]] (by rfl) rfl rfl sqm ?_
   with_reducible refine (laws_toAllowed.calls k a0_0 _ _ l0_1 _ _ l0_2 _ _ l0_3 t25 t26 t27 t28 _ ?side1 ?side2 ?side3 ?side4 ?side5 ?side6 E24.out).mono ?_
   (case side1 => exact Kd.C_below HR0_1.out HB.out)
   (case side2 => exact HC0_1.out)
   (case side3 => exact Kd.C_below HR0_2.out HB.out)
   (case side4 => exact HC0_2.out)
   (case side5 => exact Kd.C_below HR0_3.out HB.out)
   (case side6 => exact HC0_3.out)
   rintro e w40 ⟨v_0, v_1, v_2, rfl, ho0, ho1, ho2, hb⟩
   obtain ⟨Aq41, cq41, rfl⟩ := Kd.R_slice ho0
   obtain ⟨Aq42, cq42, rfl⟩ := Kd.R_slice ho1
   obtain ⟨Aq43, cq43, rfl⟩ := Kd.R_slice ho2
   refine ⟨_, rfl, ?_⟩
   obtain ⟨Lq41, Uq41, Lq42, Uq42, Lq43, Uq43, LG47, UG48, HZ44, HAP46, HZ45, HOq41, HOq42, HOq43⟩ := R_made3 ho0 ho1 ho2 rfl HS.out hb HB.out.size
   replace HKg1 := B_b HKg1 hb
   replace HKg4 := B_b HKg4 hb
   replace HS := Z_b HS hb
   replace HB := H_b HB hb
   replace HS := HZ45
   clear ho0 ho1 ho2; clear hb
   refine hK.out _ _ ⟨(blk_cell HKg1.out 0).trans rfl, (blk_cell HKg1.out 1).trans rfl, (blk_cell HKg1.out 2).trans rfl, (blk_cell HKg1.out 3).trans rfl, (blk_cell HKg4.out 0).trans rfl, (blk_cell HKg4.out 1).trans rfl, (blk_cell HKg4.out 2).trans rfl, (blk_cell HKg4.out 3).trans rfl⟩ (fun hHeld => ?_)
   clear hK K; refine no 29 ?_
   refine two_ (i := 3) (j := 8) (Ni := some 31) (Nj := some 6) #[true, true, true, true, false, false, false, false, false, false, false] #[true, true, true, false, false, false, false, false, true, false, false] rfl rfl rfl rfl sqk (by decide) (by decide) (fun K hK => ?_) (fun K hK => ?_)
   ·skip
    refine goes_ Try.func22 sqk rfl #[.agg #[.int .i64 a1_0, .slice A1_1 l1_1.length c1_1, .slice A1_2 l1_2.length c1_2, .slice A1_3 l1_3.length c1_3]] (by rfl) rfl rfl sqm ?_
    with_reducible refine (laws_toAllowed.calls k a1_0 _ _ l1_1 _ _ l1_2 _ _ l1_3 t30 t31 t32 t33 _ ?side1 ?side2 ?side3 ?side4 ?side5 ?side6 E29.out).mono ?_
    (case side1 => exact Kd.C_below HR1_1.out HB.out)
    (case side2 => exact HC1_1.out)
    (case side3 => exact Kd.C_below HR1_2.out HB.out)
    (case side4 => exact HC1_2.out)
    (case side5 => exact Kd.C_below HR1_3.out HB.out)
    (case side6 => exact HC1_3.out)
    rintro e w49 ⟨v_0, v_1, v_2, rfl, ho0, ho1, ho2, hb⟩
    obtain ⟨Aq50, cq50, rfl⟩ := Kd.R_slice ho0
    obtain ⟨Aq51, cq51, rfl⟩ := Kd.R_slice ho1
    obtain ⟨Aq52, cq52, rfl⟩ := Kd.R_slice ho2
    refine ⟨_, rfl, ?_⟩
    obtain ⟨Lq50, Uq50, Lq51, Uq51, Lq52, Uq52, LG56, UG57, HZ53, HAP55, HZ54, HOq50, HOq51, HOq52⟩ := R_made3 ho0 ho1 ho2 rfl HS.out hb HB.out.size
    replace HOq41 := R_b HOq41 hb
    replace HOq42 := R_b HOq42 hb
    replace HOq43 := R_b HOq43 hb
    replace HKg1 := B_b HKg1 hb
    replace HKg4 := B_b HKg4 hb
    replace HS := Z_b HS hb
    replace HB := H_b HB hb
    replace HS := HZ54
    clear ho0 ho1 ho2; clear hb
    refine hK.out _ _ ⟨(blk_cell HKg1.out 0).trans rfl, (blk_cell HKg1.out 1).trans rfl, (blk_cell HKg1.out 2).trans rfl, (blk_cell HKg1.out 3).trans rfl, (blk_cell HKg4.out 0).trans rfl, (blk_cell HKg4.out 1).trans rfl, (blk_cell HKg4.out 2).trans rfl, (blk_cell HKg4.out 3).trans rfl⟩ (fun hHeld => ?_)
    clear hK K; refine no 31 ?_
    refine two_ (i := 4) (j := 8) (Ni := some 32) (Nj := some 6) #[true, true, true, true, true, false, false, false, false, false, false] #[true, true, true, true, false, false, false, false, true, false, false] rfl rfl rfl rfl sqk (by decide) (by decide) (fun K hK => ?_) (fun K hK => ?_)
    ·skip
     refine goes_ Try.func39 sqk rfl #[.agg #[.int .i64 t25, .slice Aq41 t26.length cq41, .slice Aq42 t27.length cq42, .slice Aq43 t28.length cq43], .agg #[.int .i64 t30, .slice Aq50 t31.length cq50, .slice Aq51 t32.length cq51, .slice Aq52 t33.length cq52]] (by rfl) rfl rfl sqm ?_
     with_reducible refine (spec_ReplaceAllowed.calls k t25 _ _ t26 _ _ t27 _ _ t28 t30 _ _ t31 _ _ t32 _ _ t33 t35 t36 t37 t38 t39 _ ?side1 ?side2 ?side3 ?side4 ?side5 ?side6 ?side7 ?side8 ?side9 ?side10 ?side11 ?side12 E34.out).mono ?_
     (case side1 => exact (Kd.R_reads' HOq41.out).2.2)
     (case side2 => exact (Kd.R_reads' HOq41.out).2.1)
     (case side3 => exact (Kd.R_reads' HOq42.out).2.2)
     (case side4 => exact (Kd.R_reads' HOq42.out).2.1)
     (case side5 => exact (Kd.R_reads' HOq43.out).2.2)
     (case side6 => exact (Kd.R_reads' HOq43.out).2.1)
     (case side7 => exact (Kd.R_reads' HOq50.out).2.2)
     (case side8 => exact (Kd.R_reads' HOq50.out).2.1)
     (case side9 => exact (Kd.R_reads' HOq51.out).2.2)
     (case side10 => exact (Kd.R_reads' HOq51.out).2.1)
     (case side11 => exact (Kd.R_reads' HOq52.out).2.2)
     (case side12 => exact (Kd.R_reads' HOq52.out).2.1)
     rintro e w58 ⟨v_0, v_1, v_2, rfl, ho0, ho1, ho2, hb⟩
     obtain ⟨Aq59, cq59, rfl⟩ := Kd.R_slice ho0
     obtain ⟨Aq60, cq60, rfl⟩ := Kd.R_slice ho1
     obtain ⟨Aq61, cq61, rfl⟩ := Kd.R_slice ho2
     refine ⟨_, rfl, ?_⟩
     obtain ⟨Lq59, Uq59, Lq60, Uq60, Lq61, Uq61, LG65, UG66, HZ62, HAP64, HZ63, HOq59, HOq60, HOq61⟩ := R_made3 ho0 ho1 ho2 rfl HS.out hb HB.out.size
     replace HOq41 := R_b HOq41 hb
     replace HOq42 := R_b HOq42 hb
     replace HOq43 := R_b HOq43 hb
     replace HOq50 := R_b HOq50 hb
     replace HOq51 := R_b HOq51 hb
     replace HOq52 := R_b HOq52 hb
     replace HKg1 := B_b HKg1 hb
     replace HKg4 := B_b HKg4 hb
     replace HS := Z_b HS hb
     replace HB := H_b HB hb
     replace HS := HZ63
     clear ho0 ho1 ho2; clear hb
     refine hK.out _ _ ⟨(blk_cell HKg1.out 0).trans rfl, (blk_cell HKg1.out 1).trans rfl, (blk_cell HKg1.out 2).trans rfl, (blk_cell HKg1.out 3).trans rfl, (blk_cell HKg4.out 0).trans rfl, (blk_cell HKg4.out 1).trans rfl, (blk_cell HKg4.out 2).trans rfl, (blk_cell HKg4.out 3).trans rfl⟩ (fun hHeld => ?_)
     clear hK K; refine no 32 ?_; refine pu 5 27 ?_; refine pu 6 33 ?_; refine pu 7 34 ?_
     refine on 8 (some 6) (fun K hK => ?_)
     refine box_step ?hg (N := 6) ?hd (cs := #[.int .i64 0, .slice none 0 0, .slice none 0 0, .slice none 0 0]) (t := 33) ?hr ?_; (case hd => rfl); (case hg => rfl); (case hr => first | (go_simp; done) | (go_simp; rfl))
     intro g67 hg w68 hbox hb
     have HZ69 : Aside0 (UG66 ≤ g67 ∧ w.heap.size ≤ g67) := ⟨by rw [hg]; exact ⟨HS.out, HB.out.size⟩⟩
     replace HOq41 := R_b HOq41 hb
     replace HOq42 := R_b HOq42 hb
     replace HOq43 := R_b HOq43 hb
     replace HOq50 := R_b HOq50 hb
     replace HOq51 := R_b HOq51 hb
     replace HOq52 := R_b HOq52 hb
     replace HOq59 := R_b HOq59 hb
     replace HOq60 := R_b HOq60 hb
     replace HOq61 := R_b HOq61 hb
     replace HKg1 := B_b HKg1 hb
     replace HKg4 := B_b HKg4 hb
     replace HS := Z_b HS hb
     replace HB := H_b HB hb
     have HKg67 := Aside0.mk hbox
     replace HS : Aside0 (g67 + 1 ≤ w68.heap.size) := ⟨blk_lt hbox⟩
     clear hg hbox hb
     refine hK.out _ _ ⟨(blk_cell HKg1.out 0).trans rfl, (blk_cell HKg1.out 1).trans rfl, (blk_cell HKg1.out 2).trans rfl, (blk_cell HKg1.out 3).trans rfl, (blk_cell HKg4.out 0).trans rfl, (blk_cell HKg4.out 1).trans rfl, (blk_cell HKg4.out 2).trans rfl, (blk_cell HKg4.out 3).trans rfl⟩ (fun hHeld => ?_)
     clear hK K; refine no 6 ?_
     have hcj : (g4 + 1 ≤ LG65 ∧ LG65 ≤ Lq59 ∧ Lq59 ≤ Uq59 ∧ Uq59 ≤ UG66 ∧ LG65 ≤ Lq60 ∧ Lq60 ≤ Uq60 ∧ Uq60 ≤ UG66 ∧ LG65 ≤ Lq61 ∧ Lq61 ≤ Uq61 ∧ Uq61 ≤ UG66 ∧ g4 + 1 ≤ g67 ∧ (g67 + 1 ≤ LG65 ∨ UG66 ≤ g67) ∧ w.heap.size ≤ g67 ∧ UG66 ≤ w68.heap.size ∧ g67 + 1 ≤ w68.heap.size) := (by have := HZ3.out; have := HZ6.out; have := HZ44.out; have := HZ53.out; have := HZ62.out; have := HZ69.out; have := HS.out; omega)
     exact norm_ z10_1 (hCont (.agg #[.int .i64 t25, .slice Aq41 t26.length cq41, .slice Aq42 t27.length cq42, .slice Aq43 t28.length cq43], .agg #[.int .i64 t30, .slice Aq50 t31.length cq50, .slice Aq51 t32.length cq51, .slice Aq52 t33.length cq52], .slice Aq59 t36.length cq59, .slice Aq60 t37.length cq60, .slice Aq61 t38.length cq61, g67, Lq59, Uq59, Lq60, Uq60, Lq61, Uq61, LG65, UG66) _ ⟨hHeld, HOq59.out, HOq60.out, HOq61.out, HKg1.out, HKg4.out, HKg67.out, hcj, HAP64.out, HB.out⟩)
    ·skip
     refine box_step ?hg (N := 6) ?hd (cs := #[.int .i64 0, .slice none 0 0, .slice none 0 0, .slice none 0 0]) (t := 33) ?hr ?_; (case hd => rfl); (case hg => rfl); (case hr => first | (go_simp; done) | (go_simp; rfl))
     intro g70 hg w71 hbox hb
     have HZ72 : Aside0 (UG57 ≤ g70 ∧ w.heap.size ≤ g70) := ⟨by rw [hg]; exact ⟨HS.out, HB.out.size⟩⟩
     replace HOq41 := R_b HOq41 hb
     replace HOq42 := R_b HOq42 hb
     replace HOq43 := R_b HOq43 hb
     replace HOq50 := R_b HOq50 hb
     replace HOq51 := R_b HOq51 hb
     replace HOq52 := R_b HOq52 hb
     replace HKg1 := B_b HKg1 hb
     replace HKg4 := B_b HKg4 hb
     replace HS := Z_b HS hb
     replace HB := H_b HB hb
     have HKg70 := Aside0.mk hbox
     replace HS : Aside0 (g70 + 1 ≤ w71.heap.size) := ⟨blk_lt hbox⟩
     clear hg hbox hb
     refine hK.out _ _ ⟨(blk_cell HKg1.out 0).trans rfl, (blk_cell HKg1.out 1).trans rfl, (blk_cell HKg1.out 2).trans rfl, (blk_cell HKg1.out 3).trans rfl, (blk_cell HKg4.out 0).trans rfl, (blk_cell HKg4.out 1).trans rfl, (blk_cell HKg4.out 2).trans rfl, (blk_cell HKg4.out 3).trans rfl⟩ (fun hHeld => ?_)
     clear hK K; refine no 6 ?_
     refine on 4 (some 32) (fun K hK => ?_)
     refine goes_ Try.func39 sqk rfl #[.agg #[.int .i64 t25, .slice Aq41 t26.length cq41, .slice Aq42 t27.length cq42, .slice Aq43 t28.length cq43], .agg #[.int .i64 t30, .slice Aq50 t31.length cq50, .slice Aq51 t32.length cq51, .slice Aq52 t33.length cq52]] (by rfl) rfl rfl sqm ?_
     with_reducible refine (spec_ReplaceAllowed.calls k t25 _ _ t26 _ _ t27 _ _ t28 t30 _ _ t31 _ _ t32 _ _ t33 t35 t36 t37 t38 t39 _ ?side1 ?side2 ?side3 ?side4 ?side5 ?side6 ?side7 ?side8 ?side9 ?side10 ?side11 ?side12 E34.out).mono ?_
     (case side1 => exact (Kd.R_reads' HOq41.out).2.2)
     (case side2 => exact (Kd.R_reads' HOq41.out).2.1)
     (case side3 => exact (Kd.R_reads' HOq42.out).2.2)
     (case side4 => exact (Kd.R_reads' HOq42.out).2.1)
     (case side5 => exact (Kd.R_reads' HOq43.out).2.2)
     (case side6 => exact (Kd.R_reads' HOq43.out).2.1)
     (case side7 => exact (Kd.R_reads' HOq50.out).2.2)
     (case side8 => exact (Kd.R_reads' HOq50.out).2.1)
     (case side9 => exact (Kd.R_reads' HOq51.out).2.2)
     (case side10 => exact (Kd.R_reads' HOq51.out).2.1)
     (case side11 => exact (Kd.R_reads' HOq52.out).2.2)
     (case side12 => exact (Kd.R_reads' HOq52.out).2.1)
     rintro e w73 ⟨v_0, v_1, v_2, rfl, ho0, ho1, ho2, hb⟩
     obtain ⟨Aq74, cq74, rfl⟩ := Kd.R_slice ho0
     obtain ⟨Aq75, cq75, rfl⟩ := Kd.R_slice ho1
     obtain ⟨Aq76, cq76, rfl⟩ := Kd.R_slice ho2
     refine ⟨_, rfl, ?_⟩
     obtain ⟨Lq74, Uq74, Lq75, Uq75, Lq76, Uq76, LG80, UG81, HZ77, HAP79, HZ78, HOq74, HOq75, HOq76⟩ := R_made3 ho0 ho1 ho2 rfl HS.out hb HB.out.size
     replace HOq41 := R_b HOq41 hb
     replace HOq42 := R_b HOq42 hb
     replace HOq43 := R_b HOq43 hb
     replace HOq50 := R_b HOq50 hb
     replace HOq51 := R_b HOq51 hb
     replace HOq52 := R_b HOq52 hb
     replace HKg1 := B_b HKg1 hb
     replace HKg4 := B_b HKg4 hb
     replace HKg70 := B_b HKg70 hb
     replace HS := Z_b HS hb
     replace HB := H_b HB hb
     replace HS := HZ78
     clear ho0 ho1 ho2; clear hb
     refine hK.out _ _ ⟨(blk_cell HKg1.out 0).trans rfl, (blk_cell HKg1.out 1).trans rfl, (blk_cell HKg1.out 2).trans rfl, (blk_cell HKg1.out 3).trans rfl, (blk_cell HKg4.out 0).trans rfl, (blk_cell HKg4.out 1).trans rfl, (blk_cell HKg4.out 2).trans rfl, (blk_cell HKg4.out 3).trans rfl⟩ (fun hHeld => ?_)
     clear hK K; refine no 32 ?_; refine pu 5 27 ?_; refine pu 6 33 ?_; refine pu 7 34 ?_
     have hcj : (g4 + 1 ≤ LG80 ∧ LG80 ≤ Lq74 ∧ Lq74 ≤ Uq74 ∧ Uq74 ≤ UG81 ∧ LG80 ≤ Lq75 ∧ Lq75 ≤ Uq75 ∧ Uq75 ≤ UG81 ∧ LG80 ≤ Lq76 ∧ Lq76 ≤ Uq76 ∧ Uq76 ≤ UG81 ∧ g4 + 1 ≤ g70 ∧ (g70 + 1 ≤ LG80 ∨ UG81 ≤ g70) ∧ w.heap.size ≤ g70 ∧ UG81 ≤ w73.heap.size ∧ g70 + 1 ≤ w73.heap.size) := (by have := HZ3.out; have := HZ6.out; have := HZ44.out; have := HZ53.out; have := HZ72.out; have := HZ77.out; have := HS.out; omega)
     exact norm_ z10_1 (hCont (.agg #[.int .i64 t25, .slice Aq41 t26.length cq41, .slice Aq42 t27.length cq42, .slice Aq43 t28.length cq43], .agg #[.int .i64 t30, .slice Aq50 t31.length cq50, .slice Aq51 t32.length cq51, .slice Aq52 t33.length cq52], .slice Aq74 t36.length cq74, .slice Aq75 t37.length cq75, .slice Aq76 t38.length cq76, g70, Lq74, Uq74, Lq75, Uq75, Lq76, Uq76, LG80, UG81) _ ⟨hHeld, HOq74.out, HOq75.out, HOq76.out, HKg1.out, HKg4.out, HKg70.out, hcj, HAP79.out, HB.out⟩)
   ·skip
    refine box_step ?hg (N := 6) ?hd (cs := #[.int .i64 0, .slice none 0 0, .slice none 0 0, .slice none 0 0]) (t := 33) ?hr ?_; (case hd => rfl); (case hg => rfl); (case hr => first | (go_simp; done) | (go_simp; rfl))
    intro g82 hg w83 hbox hb
    have HZ84 : Aside0 (UG48 ≤ g82 ∧ w.heap.size ≤ g82) := ⟨by rw [hg]; exact ⟨HS.out, HB.out.size⟩⟩
    replace HOq41 := R_b HOq41 hb
    replace HOq42 := R_b HOq42 hb
    replace HOq43 := R_b HOq43 hb
    replace HKg1 := B_b HKg1 hb
    replace HKg4 := B_b HKg4 hb
    replace HS := Z_b HS hb
    replace HB := H_b HB hb
    have HKg82 := Aside0.mk hbox
    replace HS : Aside0 (g82 + 1 ≤ w83.heap.size) := ⟨blk_lt hbox⟩
    clear hg hbox hb
    refine hK.out _ _ ⟨(blk_cell HKg1.out 0).trans rfl, (blk_cell HKg1.out 1).trans rfl, (blk_cell HKg1.out 2).trans rfl, (blk_cell HKg1.out 3).trans rfl, (blk_cell HKg4.out 0).trans rfl, (blk_cell HKg4.out 1).trans rfl, (blk_cell HKg4.out 2).trans rfl, (blk_cell HKg4.out 3).trans rfl⟩ (fun hHeld => ?_)
    clear hK K; refine no 6 ?_
    refine on 3 (some 31) (fun K hK => ?_)
    refine goes_ Try.func22 sqk rfl #[.agg #[.int .i64 a1_0, .slice A1_1 l1_1.length c1_1, .slice A1_2 l1_2.length c1_2, .slice A1_3 l1_3.length c1_3]] (by rfl) rfl rfl sqm ?_
    with_reducible refine (laws_toAllowed.calls k a1_0 _ _ l1_1 _ _ l1_2 _ _ l1_3 t30 t31 t32 t33 _ ?side1 ?side2 ?side3 ?side4 ?side5 ?side6 E29.out).mono ?_
    (case side1 => exact Kd.C_below HR1_1.out HB.out)
    (case side2 => exact HC1_1.out)
    (case side3 => exact Kd.C_below HR1_2.out HB.out)
    (case side4 => exact HC1_2.out)
    (case side5 => exact Kd.C_below HR1_3.out HB.out)
    (case side6 => exact HC1_3.out)
    rintro e w85 ⟨v_0, v_1, v_2, rfl, ho0, ho1, ho2, hb⟩
    obtain ⟨Aq86, cq86, rfl⟩ := Kd.R_slice ho0
    obtain ⟨Aq87, cq87, rfl⟩ := Kd.R_slice ho1
    obtain ⟨Aq88, cq88, rfl⟩ := Kd.R_slice ho2
    refine ⟨_, rfl, ?_⟩
    obtain ⟨Lq86, Uq86, Lq87, Uq87, Lq88, Uq88, LG92, UG93, HZ89, HAP91, HZ90, HOq86, HOq87, HOq88⟩ := R_made3 ho0 ho1 ho2 rfl HS.out hb HB.out.size
    replace HOq41 := R_b HOq41 hb
    replace HOq42 := R_b HOq42 hb
    replace HOq43 := R_b HOq43 hb
    replace HKg1 := B_b HKg1 hb
    replace HKg4 := B_b HKg4 hb
    replace HKg82 := B_b HKg82 hb
    replace HS := Z_b HS hb
    replace HB := H_b HB hb
    replace HS := HZ90
    clear ho0 ho1 ho2; clear hb
    refine hK.out _ _ ⟨(blk_cell HKg1.out 0).trans rfl, (blk_cell HKg1.out 1).trans rfl, (blk_cell HKg1.out 2).trans rfl, (blk_cell HKg1.out 3).trans rfl, (blk_cell HKg4.out 0).trans rfl, (blk_cell HKg4.out 1).trans rfl, (blk_cell HKg4.out 2).trans rfl, (blk_cell HKg4.out 3).trans rfl⟩ (fun hHeld => ?_)
    clear hK K; refine no 31 ?_
    refine on 4 (some 32) (fun K hK => ?_)
    refine goes_ Try.func39 sqk rfl #[.agg #[.int .i64 t25, .slice Aq41 t26.length cq41, .slice Aq42 t27.length cq42, .slice Aq43 t28.length cq43], .agg #[.int .i64 t30, .slice Aq86 t31.length cq86, .slice Aq87 t32.length cq87, .slice Aq88 t33.length cq88]] (by rfl) rfl rfl sqm ?_
    with_reducible refine (spec_ReplaceAllowed.calls k t25 _ _ t26 _ _ t27 _ _ t28 t30 _ _ t31 _ _ t32 _ _ t33 t35 t36 t37 t38 t39 _ ?side1 ?side2 ?side3 ?side4 ?side5 ?side6 ?side7 ?side8 ?side9 ?side10 ?side11 ?side12 E34.out).mono ?_
    (case side1 => exact (Kd.R_reads' HOq41.out).2.2)
    (case side2 => exact (Kd.R_reads' HOq41.out).2.1)
    (case side3 => exact (Kd.R_reads' HOq42.out).2.2)
    (case side4 => exact (Kd.R_reads' HOq42.out).2.1)
    (case side5 => exact (Kd.R_reads' HOq43.out).2.2)
    (case side6 => exact (Kd.R_reads' HOq43.out).2.1)
    (case side7 => exact (Kd.R_reads' HOq86.out).2.2)
    (case side8 => exact (Kd.R_reads' HOq86.out).2.1)
    (case side9 => exact (Kd.R_reads' HOq87.out).2.2)
    (case side10 => exact (Kd.R_reads' HOq87.out).2.1)
    (case side11 => exact (Kd.R_reads' HOq88.out).2.2)
    (case side12 => exact (Kd.R_reads' HOq88.out).2.1)
    rintro e w94 ⟨v_0, v_1, v_2, rfl, ho0, ho1, ho2, hb⟩
    obtain ⟨Aq95, cq95, rfl⟩ := Kd.R_slice ho0
    obtain ⟨Aq96, cq96, rfl⟩ := Kd.R_slice ho1
    obtain ⟨Aq97, cq97, rfl⟩ := Kd.R_slice ho2
    refine ⟨_, rfl, ?_⟩
    obtain ⟨Lq95, Uq95, Lq96, Uq96, Lq97, Uq97, LG101, UG102, HZ98, HAP100, HZ99, HOq95, HOq96, HOq97⟩ := R_made3 ho0 ho1 ho2 rfl HS.out hb HB.out.size
    replace HOq41 := R_b HOq41 hb
    replace HOq42 := R_b HOq42 hb
    replace HOq43 := R_b HOq43 hb
    replace HOq86 := R_b HOq86 hb
    replace HOq87 := R_b HOq87 hb
    replace HOq88 := R_b HOq88 hb
    replace HKg1 := B_b HKg1 hb
    replace HKg4 := B_b HKg4 hb
    replace HKg82 := B_b HKg82 hb
    replace HS := Z_b HS hb
    replace HB := H_b HB hb
    replace HS := HZ99
    clear ho0 ho1 ho2; clear hb
    refine hK.out _ _ ⟨(blk_cell HKg1.out 0).trans rfl, (blk_cell HKg1.out 1).trans rfl, (blk_cell HKg1.out 2).trans rfl, (blk_cell HKg1.out 3).trans rfl, (blk_cell HKg4.out 0).trans rfl, (blk_cell HKg4.out 1).trans rfl, (blk_cell HKg4.out 2).trans rfl, (blk_cell HKg4.out 3).trans rfl⟩ (fun hHeld => ?_)
    clear hK K; refine no 32 ?_; refine pu 5 27 ?_; refine pu 6 33 ?_; refine pu 7 34 ?_
    have hcj : (g4 + 1 ≤ LG101 ∧ LG101 ≤ Lq95 ∧ Lq95 ≤ Uq95 ∧ Uq95 ≤ UG102 ∧ LG101 ≤ Lq96 ∧ Lq96 ≤ Uq96 ∧ Uq96 ≤ UG102 ∧ LG101 ≤ Lq97 ∧ Lq97 ≤ Uq97 ∧ Uq97 ≤ UG102 ∧ g4 + 1 ≤ g82 ∧ (g82 + 1 ≤ LG101 ∨ UG102 ≤ g82) ∧ w.heap.size ≤ g82 ∧ UG102 ≤ w94.heap.size ∧ g82 + 1 ≤ w94.heap.size) := (by have := HZ3.out; have := HZ6.out; have := HZ44.out; have := HZ84.out; have := HZ89.out; have := HZ98.out; have := HS.out; omega)
    exact norm_ z10_1 (hCont (.agg #[.int .i64 t25, .slice Aq41 t26.length cq41, .slice Aq42 t27.length cq42, .slice Aq43 t28.length cq43], .agg #[.int .i64 t30, .slice Aq86 t31.length cq86, .slice Aq87 t32.length cq87, .slice Aq88 t33.length cq88], .slice Aq95 t36.length cq95, .slice Aq96 t37.length cq96, .slice Aq97 t38.length cq97, g82, Lq95, Uq95, Lq96, Uq96, Lq97, Uq97, LG101, UG102) _ ⟨hHeld, HOq95.out, HOq96.out, HOq97.out, HKg1.out, HKg4.out, HKg82.out, hcj, HAP100.out, HB.out⟩)
  ·skip
   refine box_step ?hg (N := 6) ?hd (cs := #[.int .i64 0, .slice none 0 0, .slice none 0 0, .slice none 0 0]) (t := 33) ?hr ?_; (case hd => rfl); (case hg => rfl); (case hr => first | (go_simp; done) | (go_simp; rfl))
   intro g103 hg w104 hbox hb
   have HZ105 : Aside0 (g4 + 1 ≤ g103 ∧ w.heap.size ≤ g103) := ⟨by rw [hg]; exact ⟨HS.out, HB.out.size⟩⟩
   replace HKg1 := B_b HKg1 hb
   replace HKg4 := B_b HKg4 hb
   replace HS := Z_b HS hb
   replace HB := H_b HB hb
   have HKg103 := Aside0.mk hbox
   replace HS : Aside0 (g103 + 1 ≤ w104.heap.size) := ⟨blk_lt hbox⟩
   clear hg hbox hb
   refine hK.out _ _ ⟨(blk_cell HKg1.out 0).trans rfl, (blk_cell HKg1.out 1).trans rfl, (blk_cell HKg1.out 2).trans rfl, (blk_cell HKg1.out 3).trans rfl, (blk_cell HKg4.out 0).trans rfl, (blk_cell HKg4.out 1).trans rfl, (blk_cell HKg4.out 2).trans rfl, (blk_cell HKg4.out 3).trans rfl⟩ (fun hHeld => ?_)
   clear hK K; refine no 6 ?_
   refine on 1 (some 29) (fun K hK => ?_)
   refine goes_ Try.func22 sqk rfl #[.agg #[.int .i64 a0_0, .slice A0_1 l0_1.length c0_1, .slice A0_2 l0_2.length c0_2, .slice A0_3 l0_3.length c0_3]] (by rfl) rfl rfl sqm ?_
   with_reducible refine (laws_toAllowed.calls k a0_0 _ _ l0_1 _ _ l0_2 _ _ l0_3 t25 t26 t27 t28 _ ?side1 ?side2 ?side3 ?side4 ?side5 ?side6 E24.out).mono ?_
   (case side1 => exact Kd.C_below HR0_1.out HB.out)
   (case side2 => exact HC0_1.out)
   (case side3 => exact Kd.C_below HR0_2.out HB.out)
   (case side4 => exact HC0_2.out)
   (case side5 => exact Kd.C_below HR0_3.out HB.out)
   (case side6 => exact HC0_3.out)
   rintro e w106 ⟨v_0, v_1, v_2, rfl, ho0, ho1, ho2, hb⟩
   obtain ⟨Aq107, cq107, rfl⟩ := Kd.R_slice ho0
   obtain ⟨Aq108, cq108, rfl⟩ := Kd.R_slice ho1
   obtain ⟨Aq109, cq109, rfl⟩ := Kd.R_slice ho2
   refine ⟨_, rfl, ?_⟩
   obtain ⟨Lq107, Uq107, Lq108, Uq108, Lq109, Uq109, LG113, UG114, HZ110, HAP112, HZ111, HOq107, HOq108, HOq109⟩ := R_made3 ho0 ho1 ho2 rfl HS.out hb HB.out.size
   replace HKg1 := B_b HKg1 hb
   replace HKg4 := B_b HKg4 hb
   replace HKg103 := B_b HKg103 hb
   replace HS := Z_b HS hb
   replace HB := H_b HB hb
   replace HS := HZ111
   clear ho0 ho1 ho2; clear hb
   refine hK.out _ _ ⟨(blk_cell HKg1.out 0).trans rfl, (blk_cell HKg1.out 1).trans rfl, (blk_cell HKg1.out 2).trans rfl, (blk_cell HKg1.out 3).trans rfl, (blk_cell HKg4.out 0).trans rfl, (blk_cell HKg4.out 1).trans rfl, (blk_cell HKg4.out 2).trans rfl, (blk_cell HKg4.out 3).trans rfl⟩ (fun hHeld => ?_)
   clear hK K; refine no 29 ?_
   refine on 3 (some 31) (fun K hK => ?_)
   refine goes_ Try.func22 sqk rfl #[.agg #[.int .i64 a1_0, .slice A1_1 l1_1.length c1_1, .slice A1_2 l1_2.length c1_2, .slice A1_3 l1_3.length c1_3]] (by rfl) rfl rfl sqm ?_
   with_reducible refine (laws_toAllowed.calls k a1_0 _ _ l1_1 _ _ l1_2 _ _ l1_3 t30 t31 t32 t33 _ ?side1 ?side2 ?side3 ?side4 ?side5 ?side6 E29.out).mono ?_
   (case side1 => exact Kd.C_below HR1_1.out HB.out)
   (case side2 => exact HC1_1.out)
   (case side3 => exact Kd.C_below HR1_2.out HB.out)
   (case side4 => exact HC1_2.out)
   (case side5 => exact Kd.C_below HR1_3.out HB.out)
   (case side6 => exact HC1_3.out)
   rintro e w115 ⟨v_0, v_1, v_2, rfl, ho0, ho1, ho2, hb⟩
   obtain ⟨Aq116, cq116, rfl⟩ := Kd.R_slice ho0
   obtain ⟨Aq117, cq117, rfl⟩ := Kd.R_slice ho1
   obtain ⟨Aq118, cq118, rfl⟩ := Kd.R_slice ho2
   refine ⟨_, rfl, ?_⟩
   obtain ⟨Lq116, Uq116, Lq117, Uq117, Lq118, Uq118, LG122, UG123, HZ119, HAP121, HZ120, HOq116, HOq117, HOq118⟩ := R_made3 ho0 ho1 ho2 rfl HS.out hb HB.out.size
   replace HOq107 := R_b HOq107 hb
   replace HOq108 := R_b HOq108 hb
   replace HOq109 := R_b HOq109 hb
   replace HKg1 := B_b HKg1 hb
   replace HKg4 := B_b HKg4 hb
   replace HKg103 := B_b HKg103 hb
   replace HS := Z_b HS hb
   replace HB := H_b HB hb
   replace HS := HZ120
   clear ho0 ho1 ho2; clear hb
   refine hK.out _ _ ⟨(blk_cell HKg1.out 0).trans rfl, (blk_cell HKg1.out 1).trans rfl, (blk_cell HKg1.out 2).trans rfl, (blk_cell HKg1.out 3).trans rfl, (blk_cell HKg4.out 0).trans rfl, (blk_cell HKg4.out 1).trans rfl, (blk_cell HKg4.out 2).trans rfl, (blk_cell HKg4.out 3).trans rfl⟩ (fun hHeld => ?_)
   clear hK K; refine no 31 ?_
   refine on 4 (some 32) (fun K hK => ?_)
   refine goes_ Try.func39 sqk rfl #[.agg #[.int .i64 t25, .slice Aq107 t26.length cq107, .slice Aq108 t27.length cq108, .slice Aq109 t28.length cq109], .agg #[.int .i64 t30, .slice Aq116 t31.length cq116, .slice Aq117 t32.length cq117, .slice Aq118 t33.length cq118]] (by rfl) rfl rfl sqm ?_
   with_reducible refine (spec_ReplaceAllowed.calls k t25 _ _ t26 _ _ t27 _ _ t28 t30 _ _ t31 _ _ t32 _ _ t33 t35 t36 t37 t38 t39 _ ?side1 ?side2 ?side3 ?side4 ?side5 ?side6 ?side7 ?side8 ?side9 ?side10 ?side11 ?side12 E34.out).mono ?_
   (case side1 => exact (Kd.R_reads' HOq107.out).2.2)
   (case side2 => exact (Kd.R_reads' HOq107.out).2.1)
   (case side3 => exact (Kd.R_reads' HOq108.out).2.2)
   (case side4 => exact (Kd.R_reads' HOq108.out).2.1)
   (case side5 => exact (Kd.R_reads' HOq109.out).2.2)
   (case side6 => exact (Kd.R_reads' HOq109.out).2.1)
   (case side7 => exact (Kd.R_reads' HOq116.out).2.2)
   (case side8 => exact (Kd.R_reads' HOq116.out).2.1)
   (case side9 => exact (Kd.R_reads' HOq117.out).2.2)
   (case side10 => exact (Kd.R_reads' HOq117.out).2.1)
   (case side11 => exact (Kd.R_reads' HOq118.out).2.2)
   (case side12 => exact (Kd.R_reads' HOq118.out).2.1)
   rintro e w124 ⟨v_0, v_1, v_2, rfl, ho0, ho1, ho2, hb⟩
   obtain ⟨Aq125, cq125, rfl⟩ := Kd.R_slice ho0
   obtain ⟨Aq126, cq126, rfl⟩ := Kd.R_slice ho1
   obtain ⟨Aq127, cq127, rfl⟩ := Kd.R_slice ho2
   refine ⟨_, rfl, ?_⟩
   obtain ⟨Lq125, Uq125, Lq126, Uq126, Lq127, Uq127, LG131, UG132, HZ128, HAP130, HZ129, HOq125, HOq126, HOq127⟩ := R_made3 ho0 ho1 ho2 rfl HS.out hb HB.out.size
   replace HOq107 := R_b HOq107 hb
   replace HOq108 := R_b HOq108 hb
   replace HOq109 := R_b HOq109 hb
   replace HOq116 := R_b HOq116 hb
   replace HOq117 := R_b HOq117 hb
   replace HOq118 := R_b HOq118 hb
   replace HKg1 := B_b HKg1 hb
   replace HKg4 := B_b HKg4 hb
   replace HKg103 := B_b HKg103 hb
   replace HS := Z_b HS hb
   replace HB := H_b HB hb
   replace HS := HZ129
   clear ho0 ho1 ho2; clear hb
   refine hK.out _ _ ⟨(blk_cell HKg1.out 0).trans rfl, (blk_cell HKg1.out 1).trans rfl, (blk_cell HKg1.out 2).trans rfl, (blk_cell HKg1.out 3).trans rfl, (blk_cell HKg4.out 0).trans rfl, (blk_cell HKg4.out 1).trans rfl, (blk_cell HKg4.out 2).trans rfl, (blk_cell HKg4.out 3).trans rfl⟩ (fun hHeld => ?_)
   clear hK K; refine no 32 ?_; refine pu 5 27 ?_; refine pu 6 33 ?_; refine pu 7 34 ?_
   have hcj : (g4 + 1 ≤ LG131 ∧ LG131 ≤ Lq125 ∧ Lq125 ≤ Uq125 ∧ Uq125 ≤ UG132 ∧ LG131 ≤ Lq126 ∧ Lq126 ≤ Uq126 ∧ Uq126 ≤ UG132 ∧ LG131 ≤ Lq127 ∧ Lq127 ≤ Uq127 ∧ Uq127 ≤ UG132 ∧ g4 + 1 ≤ g103 ∧ (g103 + 1 ≤ LG131 ∨ UG132 ≤ g103) ∧ w.heap.size ≤ g103 ∧ UG132 ≤ w124.heap.size ∧ g103 + 1 ≤ w124.heap.size) := (by have := HZ3.out; have := HZ6.out; have := HZ105.out; have := HZ110.out; have := HZ119.out; have := HZ128.out; have := HS.out; omega)
   exact norm_ z10_1 (hCont (.agg #[.int .i64 t25, .slice Aq107 t26.length cq107, .slice Aq108 t27.length cq108, .slice Aq109 t28.length cq109], .agg #[.int .i64 t30, .slice Aq116 t31.length cq116, .slice Aq117 t32.length cq117, .slice Aq118 t33.length cq118], .slice Aq125 t36.length cq125, .slice Aq126 t37.length cq126, .slice Aq127 t38.length cq127, g103, Lq125, Uq125, Lq126, Uq126, Lq127, Uq127, LG131, UG132) _ ⟨hHeld, HOq125.out, HOq126.out, HOq127.out, HKg1.out, HKg4.out, HKg103.out, hcj, HAP130.out, HB.out⟩)
 rintro ⟨u133, u134, u135, u136, u137, g138, L139, U140, L141, U142, L143, U144, LG145, UG146⟩ w147 ⟨hS_, h0_, h1_, h2_, h3_, h4_, h5_, h6_, h7_, h8_⟩
 clear HKg1 HKg4 HS HB hHeld
 have HOq148 : Aside0 (Kd.R (Kd.int .i64) 3 w147 w.heap.size (fun x => L139 ≤ x ∧ x < U140) u135 t36) := ⟨h0_⟩
 have HOq149 : Aside0 (Kd.R (Kd.int .i64) 3 w147 w.heap.size (fun x => L141 ≤ x ∧ x < U142) u136 t37) := ⟨h1_⟩
 have HOq150 : Aside0 (Kd.R (Kd.int .i64) 3 w147 w.heap.size (fun x => L143 ≤ x ∧ x < U144) u137 t38) := ⟨h2_⟩
 have HKg1 : Aside0 (w147.heap[g1]? = some (.cells #[.int .i64 a0_0, .slice A0_1 l0_1.length c0_1, .slice A0_2 l0_2.length c0_2, .slice A0_3 l0_3.length c0_3] 30 (0, 0))) := ⟨h3_⟩
 have HKg4 : Aside0 (w147.heap[g4]? = some (.cells #[.int .i64 a1_0, .slice A1_1 l1_1.length c1_1, .slice A1_2 l1_2.length c1_2, .slice A1_3 l1_3.length c1_3] 30 (0, 0))) := ⟨h4_⟩
 have HKg138 : Aside0 (w147.heap[g138]? = some (.cells #[.int .i64 0, .slice none 0 0, .slice none 0 0, .slice none 0 0] 33 (0, 0))) := ⟨h5_⟩
 have HZ151 : Aside0 ((g4 + 1 ≤ LG145 ∧ LG145 ≤ L139 ∧ L139 ≤ U140 ∧ U140 ≤ UG146 ∧ LG145 ≤ L141 ∧ L141 ≤ U142 ∧ U142 ≤ UG146 ∧ LG145 ≤ L143 ∧ L143 ≤ U144 ∧ U144 ≤ UG146 ∧ g4 + 1 ≤ g138 ∧ (g138 + 1 ≤ LG145 ∨ UG146 ≤ g138) ∧ w.heap.size ≤ g138 ∧ UG146 ≤ w147.heap.size ∧ g138 + 1 ≤ w147.heap.size)) := ⟨h6_⟩
 have HAP152 : Aside0 (((U140 ≤ L141 ∨ U142 ≤ L139) ∧ (U140 ≤ L143 ∨ U144 ≤ L139) ∧ (U142 ≤ L143 ∨ U144 ≤ L141))) := ⟨h7_⟩
 have HB : Aside0 (Below w.heap.size w w147) := ⟨h8_⟩
 obtain ⟨M153, hM_⟩ : ∃ m, m = w147.heap.size := ⟨_, rfl⟩
 have HZ151m : Aside0 (UG146 ≤ M153 ∧ g138 + 1 ≤ M153) := ⟨by have := HZ151.out; rw [hM_]; omega⟩
 have HS : Aside0 (M153 ≤ w147.heap.size) := ⟨by rw [hM_]; exact Nat.le_refl _⟩
 replace HZ151 : Aside0 ((g4 + 1 ≤ LG145 ∧ LG145 ≤ L139 ∧ L139 ≤ U140 ∧ U140 ≤ UG146 ∧ LG145 ≤ L141 ∧ L141 ≤ U142 ∧ U142 ≤ UG146 ∧ LG145 ≤ L143 ∧ L143 ≤ U144 ∧ U144 ≤ UG146 ∧ g4 + 1 ≤ g138 ∧ (g138 + 1 ≤ LG145 ∨ UG146 ≤ g138) ∧ w.heap.size ≤ g138)) := ⟨by have := HZ151.out; omega⟩
 clear hM_
 have hHeld : w147.cell? ⟨g1, 0, none⟩ = some (.int .i64 a0_0) ∧ w147.cell? ⟨g1, 1, none⟩ = some (.slice A0_1 l0_1.length c0_1) ∧ w147.cell? ⟨g1, 2, none⟩ = some (.slice A0_2 l0_2.length c0_2) ∧ w147.cell? ⟨g1, 3, none⟩ = some (.slice A0_3 l0_3.length c0_3) ∧ w147.cell? ⟨g4, 0, none⟩ = some (.int .i64 a1_0) ∧ w147.cell? ⟨g4, 1, none⟩ = some (.slice A1_1 l1_1.length c1_1) ∧ w147.cell? ⟨g4, 2, none⟩ = some (.slice A1_2 l1_2.length c1_2) ∧ w147.cell? ⟨g4, 3, none⟩ = some (.slice A1_3 l1_3.length c1_3) := hS_
 clear hS_ h0_ h1_ h2_ h3_ h4_ h5_ h6_ h7_ h8_
 obtain ⟨Aq148, cq148, rfl⟩ := Kd.R_slice HOq148.out
 obtain ⟨Aq149, cq149, rfl⟩ := Kd.R_slice HOq149.out
 obtain ⟨Aq150, cq150, rfl⟩ := Kd.R_slice HOq150.out
 refine norm_ (a' := ?_) ?_ ?_
 rotate_left
 ·simp only [putAll, Act.put, List.setIfInBounds_toArray, List.set_cons_zero, List.set_cons_succ]
  rfl
 refine on 9 none (fun K hK => ?_)
 have hc155 : w147.cell? ⟨g138, 0, none⟩ = some (.int .i64 0) := (blk_cell HKg138.out 0).trans rfl
 have hf156 := blk_frozen HKg138.out 0
 have hc157 : w147.cell? ⟨g138, 1, none⟩ = some (.slice none 0 0) := (blk_cell HKg138.out 1).trans rfl
 have hf158 := blk_frozen HKg138.out 1
 have hc159 : w147.cell? ⟨g138, 2, none⟩ = some (.slice none 0 0) := (blk_cell HKg138.out 2).trans rfl
 have hf160 := blk_frozen HKg138.out 2
 have hc161 : w147.cell? ⟨g138, 3, none⟩ = some (.slice none 0 0) := (blk_cell HKg138.out 3).trans rfl
 have hf162 := blk_frozen HKg138.out 3
 refine skip_ (w1 := ((((w147.setCell ⟨g138, 0, none⟩ (.int .i64 t35)).setCell ⟨g138, 1, none⟩ (.slice Aq148 t36.length cq148)).setCell ⟨g138, 2, none⟩ (.slice Aq149 t37.length cq149)).setCell ⟨g138, 3, none⟩ (.slice Aq150 t38.length cq150))) (by rfl) rfl ?_ ?_
 ·first | (go_simp; done) | (go_simp; rfl)
 obtain ⟨w154, hw⟩ : ∃ x, x = ((((w147.setCell ⟨g138, 0, none⟩ (.int .i64 t35)).setCell ⟨g138, 1, none⟩ (.slice Aq148 t36.length cq148)).setCell ⟨g138, 2, none⟩ (.slice Aq149 t37.length cq149)).setCell ⟨g138, 3, none⟩ (.slice Aq150 t38.length cq150)) := ⟨_, rfl⟩
 rw [← hw]
 (try clear hc155 hf156 hc157 hf158 hc159 hf160 hc161 hf162)
 have hge_ : w.heap.size ≤ g138 := (by have := HZ3.out; have := HZ6.out; have := HZ151.out; have := HZ151m.out; omega)
 have hk : Kept w147 w154 (fun x => x = g138) := z10_0
 replace HB : Aside0 (Below w.heap.size w w154) := ⟨by rw [hw]; exact below_set (below_set (below_set (below_set (HB.out) hge_) hge_) hge_) hge_⟩
 replace HKg138 : Aside0 (w154.heap[g138]? = some (.cells #[.int .i64 t35, .slice Aq148 t36.length cq148, .slice Aq149 t37.length cq149, .slice Aq150 t38.length cq150] 33 (0, 0))) := ⟨by rw [hw]; exact blk_put (cs := #[.int .i64 t35, .slice Aq148 t36.length cq148, .slice Aq149 t37.length cq149, .slice none 0 0]) (blk_put (cs := #[.int .i64 t35, .slice Aq148 t36.length cq148, .slice none 0 0, .slice none 0 0]) (blk_put (cs := #[.int .i64 t35, .slice none 0 0, .slice none 0 0, .slice none 0 0]) (blk_put (cs := #[.int .i64 0, .slice none 0 0, .slice none 0 0, .slice none 0 0]) (HKg138.out) 0 _ rfl) 1 _ rfl) 2 _ rfl) 3 _ rfl⟩
 replace HOq148 := R_k HOq148 hk (fun x h1 h2 => (by have := HZ3.out; have := HZ6.out; have := HZ151.out; have := HZ151m.out; have h3_ : L139 ≤ x ∧ x < U140 := h1; have h4_ : x = g138 := h2; omega))
 replace HOq149 := R_k HOq149 hk (fun x h1 h2 => (by have := HZ3.out; have := HZ6.out; have := HZ151.out; have := HZ151m.out; have h3_ : L141 ≤ x ∧ x < U142 := h1; have h4_ : x = g138 := h2; omega))
 replace HOq150 := R_k HOq150 hk (fun x h1 h2 => (by have := HZ3.out; have := HZ6.out; have := HZ151.out; have := HZ151m.out; have h3_ : L143 ≤ x ∧ x < U144 := h1; have h4_ : x = g138 := h2; omega))
 replace HKg1 := B_k HKg1 hk (fun h2 => (by have := HZ3.out; have := HZ6.out; have := HZ151.out; have := HZ151m.out; have h4_ : g1 = g138 := h2; omega))
 replace HKg4 := B_k HKg4 hk (fun h2 => (by have := HZ3.out; have := HZ6.out; have := HZ151.out; have := HZ151m.out; have h4_ : g4 = g138 := h2; omega))
 replace HS := Z_k HS hk
 clear hw hk hge_
 refine hK.out _ _ ⟨(blk_cell HKg1.out 0).trans rfl, (blk_cell HKg1.out 1).trans rfl, (blk_cell HKg1.out 2).trans rfl, (blk_cell HKg1.out 3).trans rfl, (blk_cell HKg4.out 0).trans rfl, (blk_cell HKg4.out 1).trans rfl, (blk_cell HKg4.out 2).trans rfl, (blk_cell HKg4.out 3).trans rfl⟩ (fun hHeld => ?_)
 clear hK K; refine pu 10 7 ?_
 refine dn ?_
 have hc163 : w154.cell? ⟨g1, 0, none⟩ = some (.int .i64 a0_0) := (blk_cell HKg1.out 0).trans rfl
 have hc164 : w154.cell? ⟨g1, 1, none⟩ = some (.slice A0_1 l0_1.length c0_1) := (blk_cell HKg1.out 1).trans rfl
 have hc165 : w154.cell? ⟨g1, 2, none⟩ = some (.slice A0_2 l0_2.length c0_2) := (blk_cell HKg1.out 2).trans rfl
 have hc166 : w154.cell? ⟨g1, 3, none⟩ = some (.slice A0_3 l0_3.length c0_3) := (blk_cell HKg1.out 3).trans rfl
 go_wp2_with (first | ((with_reducible refine gate_callee (f := 22) rfl ?_); refine goesL_ (some 36) rfl rfl Try.func22 sqk rfl #[.agg #[.int .i64 a0_0, .slice A0_1 l0_1.length c0_1, .slice A0_2 l0_2.length c0_2, .slice A0_3 l0_3.length c0_3]] rfl sqm ?_; (with_reducible refine (laws_toAllowed.calls k a0_0 _ _ l0_1 _ _ l0_2 _ _ l0_3 t168 t169 t170 t171 _ ?side1 ?side2 ?side3 ?side4 ?side5 ?side6 E167.out).mono ?_); (case side1 => exact Kd.C_below HR0_1.out HB.out); (case side2 => exact HC0_1.out); (case side3 => exact Kd.C_below HR0_2.out HB.out); (case side4 => exact HC0_2.out); (case side5 => exact Kd.C_below HR0_3.out HB.out); (case side6 => exact HC0_3.out); rintro e w172 ⟨v_0, v_1, v_2, rfl, ho0, ho1, ho2, hb⟩; obtain ⟨Aq173, cq173, rfl⟩ := Kd.R_slice ho0; obtain ⟨Aq174, cq174, rfl⟩ := Kd.R_slice ho1; obtain ⟨Aq175, cq175, rfl⟩ := Kd.R_slice ho2; refine ⟨_, rfl, ?_⟩; obtain ⟨Lq173, Uq173, Lq174, Uq174, Lq175, Uq175, LG179, UG180, HZ176, HAP178, HZ177, HOq173, HOq174, HOq175⟩ := R_made3 ho0 ho1 ho2 rfl HS.out hb HB.out.size; (try clear hc163 hc164 hc165 hc166); replace HOq148 := R_b HOq148 hb; replace HOq149 := R_b HOq149 hb; replace HOq150 := R_b HOq150 hb; replace HKg1 := B_b HKg1 hb; replace HKg4 := B_b HKg4 hb; replace HKg138 := B_b HKg138 hb; replace HS := Z_b HS hb; replace HB := H_b HB hb; replace HS := HZ177; clear ho0 ho1 ho2; clear hb) | ((with_reducible refine gate_dst (N := 8) rfl ?_); refine bx (N := 8) (cs := #[.int .i64 0, .slice none 0 0, .slice none 0 0, .slice none 0 0]) (t := 33) ?_; intro g181 hg w182 hbox hb; have HZ183 : Aside0 (UG180 ≤ g181 ∧ w.heap.size ≤ g181) := ⟨by rw [hg]; exact ⟨HS.out, HB.out.size⟩⟩; replace HOq148 := R_b HOq148 hb; replace HOq149 := R_b HOq149 hb; replace HOq150 := R_b HOq150 hb; replace HOq173 := R_b HOq173 hb; replace HOq174 := R_b HOq174 hb; replace HOq175 := R_b HOq175 hb; replace HKg1 := B_b HKg1 hb; replace HKg4 := B_b HKg4 hb; replace HKg138 := B_b HKg138 hb; replace HS := Z_b HS hb; replace HB := H_b HB hb; have HKg181 := Aside0.mk hbox; replace HS : Aside0 (g181 + 1 ≤ w182.heap.size) := ⟨blk_lt hbox⟩; clear hg hbox hb; have hc184 : w182.cell? ⟨g181, 0, none⟩ = some (.int .i64 0) := (blk_cell HKg181.out 0).trans rfl; have hf185 := blk_frozen HKg181.out 0; have hc186 : w182.cell? ⟨g181, 1, none⟩ = some (.slice none 0 0) := (blk_cell HKg181.out 1).trans rfl; have hf187 := blk_frozen HKg181.out 1; have hc188 : w182.cell? ⟨g181, 2, none⟩ = some (.slice none 0 0) := (blk_cell HKg181.out 2).trans rfl; have hf189 := blk_frozen HKg181.out 2; have hc190 : w182.cell? ⟨g181, 3, none⟩ = some (.slice none 0 0) := (blk_cell HKg181.out 3).trans rfl; have hf191 := blk_frozen HKg181.out 3) | ((with_reducible refine gate_store (t := 33) (p := 8) rfl ?_); refine store_event (t := 33) (p := 8) (v := ?vo_w192) (w1 := ((((w182.setCell ⟨g181, 0, none⟩ (.int .i64 t168)).setCell ⟨g181, 1, none⟩ (.slice Aq173 t169.length cq173)).setCell ⟨g181, 2, none⟩ (.slice Aq174 t170.length cq174)).setCell ⟨g181, 3, none⟩ (.slice Aq175 t171.length cq175))) ?hg ?ho ?hn ?hr ?_; (case ho => rfl); (case hg => rfl); (case hn => rfl); (case hr => first | (go_simp; done) | (go_simp; rfl)); intro w192 hw; (try clear hc184 hf185 hc186 hf187 hc188 hf189 hc190 hf191); have hge_ : w.heap.size ≤ g181 := (by have := HZ3.out; have := HZ6.out; have := HZ151.out; have := HZ151m.out; have := HZ176.out; have := HZ183.out; omega); have hk : Kept w182 w192 (fun x => x = g181) := z10_0; replace HB : Aside0 (Below w.heap.size w w192) := ⟨by rw [hw]; exact below_set (below_set (below_set (below_set (HB.out) hge_) hge_) hge_) hge_⟩; replace HKg181 : Aside0 (w192.heap[g181]? = some (.cells #[.int .i64 t168, .slice Aq173 t169.length cq173, .slice Aq174 t170.length cq174, .slice Aq175 t171.length cq175] 33 (0, 0))) := ⟨by rw [hw]; exact blk_put (cs := #[.int .i64 t168, .slice Aq173 t169.length cq173, .slice Aq174 t170.length cq174, .slice none 0 0]) (blk_put (cs := #[.int .i64 t168, .slice Aq173 t169.length cq173, .slice none 0 0, .slice none 0 0]) (blk_put (cs := #[.int .i64 t168, .slice none 0 0, .slice none 0 0, .slice none 0 0]) (blk_put (cs := #[.int .i64 0, .slice none 0 0, .slice none 0 0, .slice none 0 0]) (HKg181.out) 0 _ rfl) 1 _ rfl) 2 _ rfl) 3 _ rfl⟩; replace HOq148 := R_k HOq148 hk (fun x h1 h2 => (by have := HZ3.out; have := HZ6.out; have := HZ151.out; have := HZ151m.out; have := HZ176.out; have := HZ183.out; have h3_ : L139 ≤ x ∧ x < U140 := h1; have h4_ : x = g181 := h2; omega)); replace HOq149 := R_k HOq149 hk (fun x h1 h2 => (by have := HZ3.out; have := HZ6.out; have := HZ151.out; have := HZ151m.out; have := HZ176.out; have := HZ183.out; have h3_ : L141 ≤ x ∧ x < U142 := h1; have h4_ : x = g181 := h2; omega)); replace HOq150 := R_k HOq150 hk (fun x h1 h2 => (by have := HZ3.out; have := HZ6.out; have := HZ151.out; have := HZ151m.out; have := HZ176.out; have := HZ183.out; have h3_ : L143 ≤ x ∧ x < U144 := h1; have h4_ : x = g181 := h2; omega)); replace HOq173 := R_k HOq173 hk (fun x h1 h2 => (by have := HZ3.out; have := HZ6.out; have := HZ151.out; have := HZ151m.out; have := HZ176.out; have := HZ183.out; have h3_ : Lq173 ≤ x ∧ x < Uq173 := h1; have h4_ : x = g181 := h2; omega)); replace HOq174 := R_k HOq174 hk (fun x h1 h2 => (by have := HZ3.out; have := HZ6.out; have := HZ151.out; have := HZ151m.out; have := HZ176.out; have := HZ183.out; have h3_ : Lq174 ≤ x ∧ x < Uq174 := h1; have h4_ : x = g181 := h2; omega)); replace HOq175 := R_k HOq175 hk (fun x h1 h2 => (by have := HZ3.out; have := HZ6.out; have := HZ151.out; have := HZ151m.out; have := HZ176.out; have := HZ183.out; have h3_ : Lq175 ≤ x ∧ x < Uq175 := h1; have h4_ : x = g181 := h2; omega)); replace HKg1 := B_k HKg1 hk (fun h2 => (by have := HZ3.out; have := HZ6.out; have := HZ151.out; have := HZ151m.out; have := HZ176.out; have := HZ183.out; have h4_ : g1 = g181 := h2; omega)); replace HKg4 := B_k HKg4 hk (fun h2 => (by have := HZ3.out; have := HZ6.out; have := HZ151.out; have := HZ151m.out; have := HZ176.out; have := HZ183.out; have h4_ : g4 = g181 := h2; omega)); replace HKg138 := B_k HKg138 hk (fun h2 => (by have := HZ3.out; have := HZ6.out; have := HZ151.out; have := HZ151m.out; have := HZ176.out; have := HZ183.out; have h4_ : g138 = g181 := h2; omega)); replace HS := Z_k HS hk; clear hw hk hge_; have hc193 : w192.cell? ⟨g4, 0, none⟩ = some (.int .i64 a1_0) := (blk_cell HKg4.out 0).trans rfl; have hc194 : w192.cell? ⟨g4, 1, none⟩ = some (.slice A1_1 l1_1.length c1_1) := (blk_cell HKg4.out 1).trans rfl; have hc195 : w192.cell? ⟨g4, 2, none⟩ = some (.slice A1_2 l1_2.length c1_2) := (blk_cell HKg4.out 2).trans rfl; have hc196 : w192.cell? ⟨g4, 3, none⟩ = some (.slice A1_3 l1_3.length c1_3) := (blk_cell HKg4.out 3).trans rfl) | ((with_reducible refine gate_callee (f := 22) rfl ?_); refine goesL_ (some 38) rfl rfl Try.func22 sqk rfl #[.agg #[.int .i64 a1_0, .slice A1_1 l1_1.length c1_1, .slice A1_2 l1_2.length c1_2, .slice A1_3 l1_3.length c1_3]] rfl sqm ?_; (with_reducible refine (laws_toAllowed.calls k a1_0 _ _ l1_1 _ _ l1_2 _ _ l1_3 t198 t199 t200 t201 _ ?side1 ?side2 ?side3 ?side4 ?side5 ?side6 E197.out).mono ?_); (case side1 => exact Kd.C_below HR1_1.out HB.out); (case side2 => exact HC1_1.out); (case side3 => exact Kd.C_below HR1_2.out HB.out); (case side4 => exact HC1_2.out); (case side5 => exact Kd.C_below HR1_3.out HB.out); (case side6 => exact HC1_3.out); rintro e w202 ⟨v_0, v_1, v_2, rfl, ho0, ho1, ho2, hb⟩; obtain ⟨Aq203, cq203, rfl⟩ := Kd.R_slice ho0; obtain ⟨Aq204, cq204, rfl⟩ := Kd.R_slice ho1; obtain ⟨Aq205, cq205, rfl⟩ := Kd.R_slice ho2; refine ⟨_, rfl, ?_⟩; obtain ⟨Lq203, Uq203, Lq204, Uq204, Lq205, Uq205, LG209, UG210, HZ206, HAP208, HZ207, HOq203, HOq204, HOq205⟩ := R_made3 ho0 ho1 ho2 rfl HS.out hb HB.out.size; (try clear hc193 hc194 hc195 hc196); replace HOq148 := R_b HOq148 hb; replace HOq149 := R_b HOq149 hb; replace HOq150 := R_b HOq150 hb; replace HOq173 := R_b HOq173 hb; replace HOq174 := R_b HOq174 hb; replace HOq175 := R_b HOq175 hb; replace HKg1 := B_b HKg1 hb; replace HKg4 := B_b HKg4 hb; replace HKg138 := B_b HKg138 hb; replace HKg181 := B_b HKg181 hb; replace HS := Z_b HS hb; replace HB := H_b HB hb; replace HS := HZ207; clear ho0 ho1 ho2; clear hb) | ((with_reducible refine gate_dst (N := 9) rfl ?_); refine bx (N := 9) (cs := #[.int .i64 0, .slice none 0 0, .slice none 0 0, .slice none 0 0]) (t := 33) ?_; intro g211 hg w212 hbox hb; have HZ213 : Aside0 (UG210 ≤ g211 ∧ w.heap.size ≤ g211) := ⟨by rw [hg]; exact ⟨HS.out, HB.out.size⟩⟩; replace HOq148 := R_b HOq148 hb; replace HOq149 := R_b HOq149 hb; replace HOq150 := R_b HOq150 hb; replace HOq173 := R_b HOq173 hb; replace HOq174 := R_b HOq174 hb; replace HOq175 := R_b HOq175 hb; replace HOq203 := R_b HOq203 hb; replace HOq204 := R_b HOq204 hb; replace HOq205 := R_b HOq205 hb; replace HKg1 := B_b HKg1 hb; replace HKg4 := B_b HKg4 hb; replace HKg138 := B_b HKg138 hb; replace HKg181 := B_b HKg181 hb; replace HS := Z_b HS hb; replace HB := H_b HB hb; have HKg211 := Aside0.mk hbox; replace HS : Aside0 (g211 + 1 ≤ w212.heap.size) := ⟨blk_lt hbox⟩; clear hg hbox hb; have hc214 : w212.cell? ⟨g211, 0, none⟩ = some (.int .i64 0) := (blk_cell HKg211.out 0).trans rfl; have hf215 := blk_frozen HKg211.out 0; have hc216 : w212.cell? ⟨g211, 1, none⟩ = some (.slice none 0 0) := (blk_cell HKg211.out 1).trans rfl; have hf217 := blk_frozen HKg211.out 1; have hc218 : w212.cell? ⟨g211, 2, none⟩ = some (.slice none 0 0) := (blk_cell HKg211.out 2).trans rfl; have hf219 := blk_frozen HKg211.out 2; have hc220 : w212.cell? ⟨g211, 3, none⟩ = some (.slice none 0 0) := (blk_cell HKg211.out 3).trans rfl; have hf221 := blk_frozen HKg211.out 3) | ((with_reducible refine gate_store (t := 33) (p := 9) rfl ?_); refine store_event (t := 33) (p := 9) (v := ?vo_w222) (w1 := ((((w212.setCell ⟨g211, 0, none⟩ (.int .i64 t198)).setCell ⟨g211, 1, none⟩ (.slice Aq203 t199.length cq203)).setCell ⟨g211, 2, none⟩ (.slice Aq204 t200.length cq204)).setCell ⟨g211, 3, none⟩ (.slice Aq205 t201.length cq205))) ?hg ?ho ?hn ?hr ?_; (case ho => rfl); (case hg => rfl); (case hn => rfl); (case hr => first | (go_simp; done) | (go_simp; rfl)); intro w222 hw; (try clear hc214 hf215 hc216 hf217 hc218 hf219 hc220 hf221); have hge_ : w.heap.size ≤ g211 := (by have := HZ3.out; have := HZ6.out; have := HZ151.out; have := HZ151m.out; have := HZ176.out; have := HZ183.out; have := HZ206.out; have := HZ213.out; omega); have hk : Kept w212 w222 (fun x => x = g211) := z10_0; replace HB : Aside0 (Below w.heap.size w w222) := ⟨by rw [hw]; exact below_set (below_set (below_set (below_set (HB.out) hge_) hge_) hge_) hge_⟩; replace HKg211 : Aside0 (w222.heap[g211]? = some (.cells #[.int .i64 t198, .slice Aq203 t199.length cq203, .slice Aq204 t200.length cq204, .slice Aq205 t201.length cq205] 33 (0, 0))) := ⟨by rw [hw]; exact blk_put (cs := #[.int .i64 t198, .slice Aq203 t199.length cq203, .slice Aq204 t200.length cq204, .slice none 0 0]) (blk_put (cs := #[.int .i64 t198, .slice Aq203 t199.length cq203, .slice none 0 0, .slice none 0 0]) (blk_put (cs := #[.int .i64 t198, .slice none 0 0, .slice none 0 0, .slice none 0 0]) (blk_put (cs := #[.int .i64 0, .slice none 0 0, .slice none 0 0, .slice none 0 0]) (HKg211.out) 0 _ rfl) 1 _ rfl) 2 _ rfl) 3 _ rfl⟩; replace HOq148 := R_k HOq148 hk (fun x h1 h2 => (by have := HZ3.out; have := HZ6.out; have := HZ151.out; have := HZ151m.out; have := HZ176.out; have := HZ183.out; have := HZ206.out; have := HZ213.out; have h3_ : L139 ≤ x ∧ x < U140 := h1; have h4_ : x = g211 := h2; omega)); replace HOq149 := R_k HOq149 hk (fun x h1 h2 => (by have := HZ3.out; have := HZ6.out; have := HZ151.out; have := HZ151m.out; have := HZ176.out; have := HZ183.out; have := HZ206.out; have := HZ213.out; have h3_ : L141 ≤ x ∧ x < U142 := h1; have h4_ : x = g211 := h2; omega)); replace HOq150 := R_k HOq150 hk (fun x h1 h2 => (by have := HZ3.out; have := HZ6.out; have := HZ151.out; have := HZ151m.out; have := HZ176.out; have := HZ183.out; have := HZ206.out; have := HZ213.out; have h3_ : L143 ≤ x ∧ x < U144 := h1; have h4_ : x = g211 := h2; omega)); replace HOq173 := R_k HOq173 hk (fun x h1 h2 => (by have := HZ3.out; have := HZ6.out; have := HZ151.out; have := HZ151m.out; have := HZ176.out; have := HZ183.out; have := HZ206.out; have := HZ213.out; have h3_ : Lq173 ≤ x ∧ x < Uq173 := h1; have h4_ : x = g211 := h2; omega)); replace HOq174 := R_k HOq174 hk (fun x h1 h2 => (by have := HZ3.out; have := HZ6.out; have := HZ151.out; have := HZ151m.out; have := HZ176.out; have := HZ183.out; have := HZ206.out; have := HZ213.out; have h3_ : Lq174 ≤ x ∧ x < Uq174 := h1; have h4_ : x = g211 := h2; omega)); replace HOq175 := R_k HOq175 hk (fun x h1 h2 => (by have := HZ3.out; have := HZ6.out; have := HZ151.out; have := HZ151m.out; have := HZ176.out; have := HZ183.out; have := HZ206.out; have := HZ213.out; have h3_ : Lq175 ≤ x ∧ x < Uq175 := h1; have h4_ : x = g211 := h2; omega)); replace HOq203 := R_k HOq203 hk (fun x h1 h2 => (by have := HZ3.out; have := HZ6.out; have := HZ151.out; have := HZ151m.out; have := HZ176.out; have := HZ183.out; have := HZ206.out; have := HZ213.out; have h3_ : Lq203 ≤ x ∧ x < Uq203 := h1; have h4_ : x = g211 := h2; omega)); replace HOq204 := R_k HOq204 hk (fun x h1 h2 => (by have := HZ3.out; have := HZ6.out; have := HZ151.out; have := HZ151m.out; have := HZ176.out; have := HZ183.out; have := HZ206.out; have := HZ213.out; have h3_ : Lq204 ≤ x ∧ x < Uq204 := h1; have h4_ : x = g211 := h2; omega)); replace HOq205 := R_k HOq205 hk (fun x h1 h2 => (by have := HZ3.out; have := HZ6.out; have := HZ151.out; have := HZ151m.out; have := HZ176.out; have := HZ183.out; have := HZ206.out; have := HZ213.out; have h3_ : Lq205 ≤ x ∧ x < Uq205 := h1; have h4_ : x = g211 := h2; omega)); replace HKg1 := B_k HKg1 hk (fun h2 => (by have := HZ3.out; have := HZ6.out; have := HZ151.out; have := HZ151m.out; have := HZ176.out; have := HZ183.out; have := HZ206.out; have := HZ213.out; have h4_ : g1 = g211 := h2; omega)); replace HKg4 := B_k HKg4 hk (fun h2 => (by have := HZ3.out; have := HZ6.out; have := HZ151.out; have := HZ151m.out; have := HZ176.out; have := HZ183.out; have := HZ206.out; have := HZ213.out; have h4_ : g4 = g211 := h2; omega)); replace HKg138 := B_k HKg138 hk (fun h2 => (by have := HZ3.out; have := HZ6.out; have := HZ151.out; have := HZ151m.out; have := HZ176.out; have := HZ183.out; have := HZ206.out; have := HZ213.out; have h4_ : g138 = g211 := h2; omega)); replace HKg181 := B_k HKg181 hk (fun h2 => (by have := HZ3.out; have := HZ6.out; have := HZ151.out; have := HZ151m.out; have := HZ176.out; have := HZ183.out; have := HZ206.out; have := HZ213.out; have h4_ : g181 = g211 := h2; omega)); replace HS := Z_k HS hk; clear hw hk hge_; have hc223 : w222.cell? ⟨g181, 0, none⟩ = some (.int .i64 t168) := (blk_cell HKg181.out 0).trans rfl; have hc224 : w222.cell? ⟨g181, 1, none⟩ = some (.slice Aq173 t169.length cq173) := (blk_cell HKg181.out 1).trans rfl; have hc225 : w222.cell? ⟨g181, 2, none⟩ = some (.slice Aq174 t170.length cq174) := (blk_cell HKg181.out 2).trans rfl; have hc226 : w222.cell? ⟨g181, 3, none⟩ = some (.slice Aq175 t171.length cq175) := (blk_cell HKg181.out 3).trans rfl; have hc227 : w222.cell? ⟨g211, 0, none⟩ = some (.int .i64 t198) := (blk_cell HKg211.out 0).trans rfl; have hc228 : w222.cell? ⟨g211, 1, none⟩ = some (.slice Aq203 t199.length cq203) := (blk_cell HKg211.out 1).trans rfl; have hc229 : w222.cell? ⟨g211, 2, none⟩ = some (.slice Aq204 t200.length cq204) := (blk_cell HKg211.out 2).trans rfl; have hc230 : w222.cell? ⟨g211, 3, none⟩ = some (.slice Aq205 t201.length cq205) := (blk_cell HKg211.out 3).trans rfl) | ((with_reducible refine gate_callee (f := 40) rfl ?_); refine goesL_ (some 42) rfl rfl Try.func40 sqk rfl #[.agg #[.int .i64 t168, .slice Aq173 t169.length cq173, .slice Aq174 t170.length cq174, .slice Aq175 t171.length cq175], .agg #[.int .i64 t198, .slice Aq203 t199.length cq203, .slice Aq204 t200.length cq204, .slice Aq205 t201.length cq205]] rfl sqm ?_; (with_reducible refine (impl_ReplaceAllowed.calls k t168 _ _ t169 _ _ t170 _ _ t171 t198 _ _ t199 _ _ t200 _ _ t201 t232 t233 t234 t235 t39 _ ?side1 ?side2 ?side3 ?side4 ?side5 ?side6 ?side7 ?side8 ?side9 ?side10 ?side11 ?side12 E231.out).mono ?_); (case side1 => exact (Kd.R_reads' HOq173.out).2.2); (case side2 => exact (Kd.R_reads' HOq173.out).2.1); (case side3 => exact (Kd.R_reads' HOq174.out).2.2); (case side4 => exact (Kd.R_reads' HOq174.out).2.1); (case side5 => exact (Kd.R_reads' HOq175.out).2.2); (case side6 => exact (Kd.R_reads' HOq175.out).2.1); (case side7 => exact (Kd.R_reads' HOq203.out).2.2); (case side8 => exact (Kd.R_reads' HOq203.out).2.1); (case side9 => exact (Kd.R_reads' HOq204.out).2.2); (case side10 => exact (Kd.R_reads' HOq204.out).2.1); (case side11 => exact (Kd.R_reads' HOq205.out).2.2); (case side12 => exact (Kd.R_reads' HOq205.out).2.1); rintro e w237 ⟨v_0, v_1, v_2, rfl, ho0, ho1, ho2, hb⟩; obtain ⟨Aq238, cq238, rfl⟩ := Kd.R_slice ho0; obtain ⟨Aq239, cq239, rfl⟩ := Kd.R_slice ho1; obtain ⟨Aq240, cq240, rfl⟩ := Kd.R_slice ho2; refine ⟨_, rfl, ?_⟩; obtain ⟨Lq238, Uq238, Lq239, Uq239, Lq240, Uq240, LG244, UG245, HZ241, HAP243, HZ242, HOq238, HOq239, HOq240⟩ := R_made3 ho0 ho1 ho2 rfl HS.out hb HB.out.size; (try clear hc223 hc224 hc225 hc226 hc227 hc228 hc229 hc230); replace HOq148 := R_b HOq148 hb; replace HOq149 := R_b HOq149 hb; replace HOq150 := R_b HOq150 hb; replace HOq173 := R_b HOq173 hb; replace HOq174 := R_b HOq174 hb; replace HOq175 := R_b HOq175 hb; replace HOq203 := R_b HOq203 hb; replace HOq204 := R_b HOq204 hb; replace HOq205 := R_b HOq205 hb; replace HKg1 := B_b HKg1 hb; replace HKg4 := B_b HKg4 hb; replace HKg138 := B_b HKg138 hb; replace HKg181 := B_b HKg181 hb; replace HKg211 := B_b HKg211 hb; replace HS := Z_b HS hb; replace HB := H_b HB hb; replace HS := HZ242; clear ho0 ho1 ho2; clear hb) | ((with_reducible refine gate_dst (N := 10) rfl ?_); refine bx (N := 10) (cs := #[.int .i64 0, .slice none 0 0, .slice none 0 0, .slice none 0 0]) (t := 33) ?_; intro g246 hg w247 hbox hb; have HZ248 : Aside0 (UG245 ≤ g246 ∧ w.heap.size ≤ g246) := ⟨by rw [hg]; exact ⟨HS.out, HB.out.size⟩⟩; replace HOq148 := R_b HOq148 hb; replace HOq149 := R_b HOq149 hb; replace HOq150 := R_b HOq150 hb; replace HOq173 := R_b HOq173 hb; replace HOq174 := R_b HOq174 hb; replace HOq175 := R_b HOq175 hb; replace HOq203 := R_b HOq203 hb; replace HOq204 := R_b HOq204 hb; replace HOq205 := R_b HOq205 hb; replace HOq238 := R_b HOq238 hb; replace HOq239 := R_b HOq239 hb; replace HOq240 := R_b HOq240 hb; replace HKg1 := B_b HKg1 hb; replace HKg4 := B_b HKg4 hb; replace HKg138 := B_b HKg138 hb; replace HKg181 := B_b HKg181 hb; replace HKg211 := B_b HKg211 hb; replace HS := Z_b HS hb; replace HB := H_b HB hb; have HKg246 := Aside0.mk hbox; replace HS : Aside0 (g246 + 1 ≤ w247.heap.size) := ⟨blk_lt hbox⟩; clear hg hbox hb; have hc249 : w247.cell? ⟨g246, 0, none⟩ = some (.int .i64 0) := (blk_cell HKg246.out 0).trans rfl; have hf250 := blk_frozen HKg246.out 0; have hc251 : w247.cell? ⟨g246, 1, none⟩ = some (.slice none 0 0) := (blk_cell HKg246.out 1).trans rfl; have hf252 := blk_frozen HKg246.out 1; have hc253 : w247.cell? ⟨g246, 2, none⟩ = some (.slice none 0 0) := (blk_cell HKg246.out 2).trans rfl; have hf254 := blk_frozen HKg246.out 2; have hc255 : w247.cell? ⟨g246, 3, none⟩ = some (.slice none 0 0) := (blk_cell HKg246.out 3).trans rfl; have hf256 := blk_frozen HKg246.out 3) | ((with_reducible refine gate_store (t := 33) (p := 10) rfl ?_); refine store_event (t := 33) (p := 10) (v := ?vo_w257) (w1 := ((((w247.setCell ⟨g246, 0, none⟩ (.int .i64 t232)).setCell ⟨g246, 1, none⟩ (.slice Aq238 t233.length cq238)).setCell ⟨g246, 2, none⟩ (.slice Aq239 t234.length cq239)).setCell ⟨g246, 3, none⟩ (.slice Aq240 t235.length cq240))) ?hg ?ho ?hn ?hr ?_; (case ho => rfl); (case hg => rfl); (case hn => rfl); (case hr => first | (go_simp; done) | (go_simp; rfl)); intro w257 hw; (try clear hc249 hf250 hc251 hf252 hc253 hf254 hc255 hf256); have hge_ : w.heap.size ≤ g246 := (by have := HZ3.out; have := HZ6.out; have := HZ151.out; have := HZ151m.out; have := HZ176.out; have := HZ183.out; have := HZ206.out; have := HZ213.out; have := HZ241.out; have := HZ248.out; omega); have hk : Kept w247 w257 (fun x => x = g246) := z10_0; replace HB : Aside0 (Below w.heap.size w w257) := ⟨by rw [hw]; exact below_set (below_set (below_set (below_set (HB.out) hge_) hge_) hge_) hge_⟩; replace HKg246 : Aside0 (w257.heap[g246]? = some (.cells #[.int .i64 t232, .slice Aq238 t233.length cq238, .slice Aq239 t234.length cq239, .slice Aq240 t235.length cq240] 33 (0, 0))) := ⟨by rw [hw]; exact blk_put (cs := #[.int .i64 t232, .slice Aq238 t233.length cq238, .slice Aq239 t234.length cq239, .slice none 0 0]) (blk_put (cs := #[.int .i64 t232, .slice Aq238 t233.length cq238, .slice none 0 0, .slice none 0 0]) (blk_put (cs := #[.int .i64 t232, .slice none 0 0, .slice none 0 0, .slice none 0 0]) (blk_put (cs := #[.int .i64 0, .slice none 0 0, .slice none 0 0, .slice none 0 0]) (HKg246.out) 0 _ rfl) 1 _ rfl) 2 _ rfl) 3 _ rfl⟩; replace HOq148 := R_k HOq148 hk (fun x h1 h2 => (by have := HZ3.out; have := HZ6.out; have := HZ151.out; have := HZ151m.out; have := HZ176.out; have := HZ183.out; have := HZ206.out; have := HZ213.out; have := HZ241.out; have := HZ248.out; have h3_ : L139 ≤ x ∧ x < U140 := h1; have h4_ : x = g246 := h2; omega)); replace HOq149 := R_k HOq149 hk (fun x h1 h2 => (by have := HZ3.out; have := HZ6.out; have := HZ151.out; have := HZ151m.out; have := HZ176.out; have := HZ183.out; have := HZ206.out; have := HZ213.out; have := HZ241.out; have := HZ248.out; have h3_ : L141 ≤ x ∧ x < U142 := h1; have h4_ : x = g246 := h2; omega)); replace HOq150 := R_k HOq150 hk (fun x h1 h2 => (by have := HZ3.out; have := HZ6.out; have := HZ151.out; have := HZ151m.out; have := HZ176.out; have := HZ183.out; have := HZ206.out; have := HZ213.out; have := HZ241.out; have := HZ248.out; have h3_ : L143 ≤ x ∧ x < U144 := h1; have h4_ : x = g246 := h2; omega)); replace HOq173 := R_k HOq173 hk (fun x h1 h2 => (by have := HZ3.out; have := HZ6.out; have := HZ151.out; have := HZ151m.out; have := HZ176.out; have := HZ183.out; have := HZ206.out; have := HZ213.out; have := HZ241.out; have := HZ248.out; have h3_ : Lq173 ≤ x ∧ x < Uq173 := h1; have h4_ : x = g246 := h2; omega)); replace HOq174 := R_k HOq174 hk (fun x h1 h2 => (by have := HZ3.out; have := HZ6.out; have := HZ151.out; have := HZ151m.out; have := HZ176.out; have := HZ183.out; have := HZ206.out; have := HZ213.out; have := HZ241.out; have := HZ248.out; have h3_ : Lq174 ≤ x ∧ x < Uq174 := h1; have h4_ : x = g246 := h2; omega)); replace HOq175 := R_k HOq175 hk (fun x h1 h2 => (by have := HZ3.out; have := HZ6.out; have := HZ151.out; have := HZ151m.out; have := HZ176.out; have := HZ183.out; have := HZ206.out; have := HZ213.out; have := HZ241.out; have := HZ248.out; have h3_ : Lq175 ≤ x ∧ x < Uq175 := h1; have h4_ : x = g246 := h2; omega)); replace HOq203 := R_k HOq203 hk (fun x h1 h2 => (by have := HZ3.out; have := HZ6.out; have := HZ151.out; have := HZ151m.out; have := HZ176.out; have := HZ183.out; have := HZ206.out; have := HZ213.out; have := HZ241.out; have := HZ248.out; have h3_ : Lq203 ≤ x ∧ x < Uq203 := h1; have h4_ : x = g246 := h2; omega)); replace HOq204 := R_k HOq204 hk (fun x h1 h2 => (by have := HZ3.out; have := HZ6.out; have := HZ151.out; have := HZ151m.out; have := HZ176.out; have := HZ183.out; have := HZ206.out; have := HZ213.out; have := HZ241.out; have := HZ248.out; have h3_ : Lq204 ≤ x ∧ x < Uq204 := h1; have h4_ : x = g246 := h2; omega)); replace HOq205 := R_k HOq205 hk (fun x h1 h2 => (by have := HZ3.out; have := HZ6.out; have := HZ151.out; have := HZ151m.out; have := HZ176.out; have := HZ183.out; have := HZ206.out; have := HZ213.out; have := HZ241.out; have := HZ248.out; have h3_ : Lq205 ≤ x ∧ x < Uq205 := h1; have h4_ : x = g246 := h2; omega)); replace HOq238 := R_k HOq238 hk (fun x h1 h2 => (by have := HZ3.out; have := HZ6.out; have := HZ151.out; have := HZ151m.out; have := HZ176.out; have := HZ183.out; have := HZ206.out; have := HZ213.out; have := HZ241.out; have := HZ248.out; have h3_ : Lq238 ≤ x ∧ x < Uq238 := h1; have h4_ : x = g246 := h2; omega)); replace HOq239 := R_k HOq239 hk (fun x h1 h2 => (by have := HZ3.out; have := HZ6.out; have := HZ151.out; have := HZ151m.out; have := HZ176.out; have := HZ183.out; have := HZ206.out; have := HZ213.out; have := HZ241.out; have := HZ248.out; have h3_ : Lq239 ≤ x ∧ x < Uq239 := h1; have h4_ : x = g246 := h2; omega)); replace HOq240 := R_k HOq240 hk (fun x h1 h2 => (by have := HZ3.out; have := HZ6.out; have := HZ151.out; have := HZ151m.out; have := HZ176.out; have := HZ183.out; have := HZ206.out; have := HZ213.out; have := HZ241.out; have := HZ248.out; have h3_ : Lq240 ≤ x ∧ x < Uq240 := h1; have h4_ : x = g246 := h2; omega)); replace HKg1 := B_k HKg1 hk (fun h2 => (by have := HZ3.out; have := HZ6.out; have := HZ151.out; have := HZ151m.out; have := HZ176.out; have := HZ183.out; have := HZ206.out; have := HZ213.out; have := HZ241.out; have := HZ248.out; have h4_ : g1 = g246 := h2; omega)); replace HKg4 := B_k HKg4 hk (fun h2 => (by have := HZ3.out; have := HZ6.out; have := HZ151.out; have := HZ151m.out; have := HZ176.out; have := HZ183.out; have := HZ206.out; have := HZ213.out; have := HZ241.out; have := HZ248.out; have h4_ : g4 = g246 := h2; omega)); replace HKg138 := B_k HKg138 hk (fun h2 => (by have := HZ3.out; have := HZ6.out; have := HZ151.out; have := HZ151m.out; have := HZ176.out; have := HZ183.out; have := HZ206.out; have := HZ213.out; have := HZ241.out; have := HZ248.out; have h4_ : g138 = g246 := h2; omega)); replace HKg181 := B_k HKg181 hk (fun h2 => (by have := HZ3.out; have := HZ6.out; have := HZ151.out; have := HZ151m.out; have := HZ176.out; have := HZ183.out; have := HZ206.out; have := HZ213.out; have := HZ241.out; have := HZ248.out; have h4_ : g181 = g246 := h2; omega)); replace HKg211 := B_k HKg211 hk (fun h2 => (by have := HZ3.out; have := HZ6.out; have := HZ151.out; have := HZ151m.out; have := HZ176.out; have := HZ183.out; have := HZ206.out; have := HZ213.out; have := HZ241.out; have := HZ248.out; have h4_ : g211 = g246 := h2; omega)); replace HS := Z_k HS hk; clear hw hk hge_; have hc258 : w257.cell? ⟨g246, 0, none⟩ = some (.int .i64 t232) := (blk_cell HKg246.out 0).trans rfl; have hc259 : w257.cell? ⟨g246, 1, none⟩ = some (.slice Aq238 t233.length cq238) := (blk_cell HKg246.out 1).trans rfl; have hc260 : w257.cell? ⟨g246, 2, none⟩ = some (.slice Aq239 t234.length cq239) := (blk_cell HKg246.out 2).trans rfl; have hc261 : w257.cell? ⟨g246, 3, none⟩ = some (.slice Aq240 t235.length cq240) := (blk_cell HKg246.out 3).trans rfl; have hc262 : w257.cell? ⟨g138, 0, none⟩ = some (.int .i64 t35) := (blk_cell HKg138.out 0).trans rfl; have hc263 : w257.cell? ⟨g138, 1, none⟩ = some (.slice Aq148 t36.length cq148) := (blk_cell HKg138.out 1).trans rfl; have hc264 : w257.cell? ⟨g138, 2, none⟩ = some (.slice Aq149 t37.length cq149) := (blk_cell HKg138.out 2).trans rfl; have hc265 : w257.cell? ⟨g138, 3, none⟩ = some (.slice Aq150 t38.length cq150) := (blk_cell HKg138.out 3).trans rfl) | ((with_reducible refine gate_callee (f := 24) rfl ?_); refine goesL_ (some 47) rfl rfl Try.func24 sqk rfl #[.agg #[.int .i64 t232, .slice Aq238 t233.length cq238, .slice Aq239 t234.length cq239, .slice Aq240 t235.length cq240], .agg #[.int .i64 t35, .slice Aq148 t36.length cq148, .slice Aq149 t37.length cq149, .slice Aq150 t38.length cq150]] rfl sqm ?_; (with_reducible refine (laws_eqAllowed.calls k t232 _ _ t233 _ _ t234 _ _ t235 t35 _ _ t36 _ _ t37 _ _ t38 true _ ?side1 ?side2 ?side3 ?side4 ?side5 ?side6 ?side7 ?side8 ?side9 ?side10 ?side11 ?side12 E266.out).mono ?_); (case side1 => exact (Kd.R_reads' HOq238.out).2.2); (case side2 => exact (Kd.R_reads' HOq238.out).2.1); (case side3 => exact (Kd.R_reads' HOq239.out).2.2); (case side4 => exact (Kd.R_reads' HOq239.out).2.1); (case side5 => exact (Kd.R_reads' HOq240.out).2.2); (case side6 => exact (Kd.R_reads' HOq240.out).2.1); (case side7 => exact (Kd.R_reads' HOq148.out).2.2); (case side8 => exact (Kd.R_reads' HOq148.out).2.1); (case side9 => exact (Kd.R_reads' HOq149.out).2.2); (case side10 => exact (Kd.R_reads' HOq149.out).2.1); (case side11 => exact (Kd.R_reads' HOq150.out).2.2); (case side12 => exact (Kd.R_reads' HOq150.out).2.1); rintro e w268 ⟨rfl, hb⟩; refine ⟨_, rfl, ?_⟩; (try clear hc258 hc259 hc260 hc261 hc262 hc263 hc264 hc265); replace HOq148 := R_b HOq148 hb; replace HOq149 := R_b HOq149 hb; replace HOq150 := R_b HOq150 hb; replace HOq173 := R_b HOq173 hb; replace HOq174 := R_b HOq174 hb; replace HOq175 := R_b HOq175 hb; replace HOq203 := R_b HOq203 hb; replace HOq204 := R_b HOq204 hb; replace HOq205 := R_b HOq205 hb; replace HOq238 := R_b HOq238 hb; replace HOq239 := R_b HOq239 hb; replace HOq240 := R_b HOq240 hb; replace HKg1 := B_b HKg1 hb; replace HKg4 := B_b HKg4 hb; replace HKg138 := B_b HKg138 hb; replace HKg181 := B_b HKg181 hb; replace HKg211 := B_b HKg211 hb; replace HKg246 := B_b HKg246 hb; replace HS := Z_b HS hb; replace HB := H_b HB hb; clear hb))
 have hb := below_drew (Below.refl w268.heap.size w268)
 replace HOq148 := R_b HOq148 hb
 replace HOq149 := R_b HOq149 hb
 replace HOq150 := R_b HOq150 hb
 replace HOq173 := R_b HOq173 hb
 replace HOq174 := R_b HOq174 hb
 replace HOq175 := R_b HOq175 hb
 replace HOq203 := R_b HOq203 hb
 replace HOq204 := R_b HOq204 hb
 replace HOq205 := R_b HOq205 hb
 replace HOq238 := R_b HOq238 hb
 replace HOq239 := R_b HOq239 hb
 replace HOq240 := R_b HOq240 hb
 replace HKg1 := B_b HKg1 hb
 replace HKg4 := B_b HKg4 hb
 replace HKg138 := B_b HKg138 hb
 replace HKg181 := B_b HKg181 hb
 replace HKg211 := B_b HKg211 hb
 replace HKg246 := B_b HKg246 hb
 replace HS := Z_b HS hb
 replace HB := H_b HB hb
 clear hb
 refine start_ (n := 5) (S := fun w' => w'.cell? ⟨g181, 0, none⟩ = some (.int .i64 t168) ∧ w'.cell? ⟨g181, 1, none⟩ = some (.slice Aq173 t169.length cq173) ∧ w'.cell? ⟨g181, 2, none⟩ = some (.slice Aq174 t170.length cq174) ∧ w'.cell? ⟨g181, 3, none⟩ = some (.slice Aq175 t171.length cq175) ∧ w'.cell? ⟨g1, 0, none⟩ = some (.int .i64 a0_0) ∧ w'.cell? ⟨g1, 1, none⟩ = some (.slice A0_1 l0_1.length c0_1) ∧ w'.cell? ⟨g1, 2, none⟩ = some (.slice A0_2 l0_2.length c0_2) ∧ w'.cell? ⟨g1, 3, none⟩ = some (.slice A0_3 l0_3.length c0_3)) (ds := []) #[false, false, false, false, false] sqk rfl rfl ⟨(blk_cell HKg181.out 0).trans rfl, (blk_cell HKg181.out 1).trans rfl, (blk_cell HKg181.out 2).trans rfl, (blk_cell HKg181.out 3).trans rfl, (blk_cell HKg1.out 0).trans rfl, (blk_cell HKg1.out 1).trans rfl, (blk_cell HKg1.out 2).trans rfl, (blk_cell HKg1.out 3).trans rfl⟩ (fun hHeld => ?_)
 generalize w268.drew = w271 at HOq148 HOq149 HOq150 HOq173 HOq174 HOq175 HOq203 HOq204 HOq205 HOq238 HOq239 HOq240 HKg1 HKg4 HKg138 HKg181 HKg211 HKg246 HB HS hHeld ⊢
 refine ta 0 54 ?_; refine ta 1 55 ?_
 refine on 2 (some 56) (fun K hK => ?_)
 refine goes_ Try.func22 sqk rfl #[.agg #[.int .i64 a0_0, .slice A0_1 l0_1.length c0_1, .slice A0_2 l0_2.length c0_2, .slice A0_3 l0_3.length c0_3]] (by rfl) rfl rfl sqm ?_
 with_reducible refine (laws_toAllowed.calls k a0_0 _ _ l0_1 _ _ l0_2 _ _ l0_3 t273 t274 t275 t276 _ ?side1 ?side2 ?side3 ?side4 ?side5 ?side6 E272.out).mono ?_
 (case side1 => exact Kd.C_below HR0_1.out HB.out)
 (case side2 => exact HC0_1.out)
 (case side3 => exact Kd.C_below HR0_2.out HB.out)
 (case side4 => exact HC0_2.out)
 (case side5 => exact Kd.C_below HR0_3.out HB.out)
 (case side6 => exact HC0_3.out)
 rintro e w277 ⟨v_0, v_1, v_2, rfl, ho0, ho1, ho2, hb⟩
 obtain ⟨Aq278, cq278, rfl⟩ := Kd.R_slice ho0
 obtain ⟨Aq279, cq279, rfl⟩ := Kd.R_slice ho1
 obtain ⟨Aq280, cq280, rfl⟩ := Kd.R_slice ho2
 refine ⟨_, rfl, ?_⟩
 obtain ⟨Lq278, Uq278, Lq279, Uq279, Lq280, Uq280, LG284, UG285, HZ281, HAP283, HZ282, HOq278, HOq279, HOq280⟩ := R_made3 ho0 ho1 ho2 rfl HS.out hb HB.out.size
 replace HOq148 := R_b HOq148 hb
 replace HOq149 := R_b HOq149 hb
 replace HOq150 := R_b HOq150 hb
 replace HOq173 := R_b HOq173 hb
 replace HOq174 := R_b HOq174 hb
 replace HOq175 := R_b HOq175 hb
 replace HOq203 := R_b HOq203 hb
 replace HOq204 := R_b HOq204 hb
 replace HOq205 := R_b HOq205 hb
 replace HOq238 := R_b HOq238 hb
 replace HOq239 := R_b HOq239 hb
 replace HOq240 := R_b HOq240 hb
 replace HKg1 := B_b HKg1 hb
 replace HKg4 := B_b HKg4 hb
 replace HKg138 := B_b HKg138 hb
 replace HKg181 := B_b HKg181 hb
 replace HKg211 := B_b HKg211 hb
 replace HKg246 := B_b HKg246 hb
 replace HS := Z_b HS hb
 replace HB := H_b HB hb
 replace HS := HZ282
 clear ho0 ho1 ho2; clear hb
 refine hK.out _ _ ⟨(blk_cell HKg181.out 0).trans rfl, (blk_cell HKg181.out 1).trans rfl, (blk_cell HKg181.out 2).trans rfl, (blk_cell HKg181.out 3).trans rfl, (blk_cell HKg1.out 0).trans rfl, (blk_cell HKg1.out 1).trans rfl, (blk_cell HKg1.out 2).trans rfl, (blk_cell HKg1.out 3).trans rfl⟩ (fun hHeld => ?_)
 clear hK K; refine no 56 ?_
 refine on 3 (some 57) (fun K hK => ?_)
 refine goes_ Try.func24 sqk rfl #[.agg #[.int .i64 t168, .slice Aq173 t169.length cq173, .slice Aq174 t170.length cq174, .slice Aq175 t171.length cq175], .agg #[.int .i64 t273, .slice Aq278 t274.length cq278, .slice Aq279 t275.length cq279, .slice Aq280 t276.length cq280]] (by rfl) rfl rfl sqm ?_
 with_reducible refine (laws_eqAllowed.calls k t168 _ _ t169 _ _ t170 _ _ t171 t273 _ _ t274 _ _ t275 _ _ t276 true _ ?side1 ?side2 ?side3 ?side4 ?side5 ?side6 ?side7 ?side8 ?side9 ?side10 ?side11 ?side12 E286.out).mono ?_
 (case side1 => exact (Kd.R_reads' HOq173.out).2.2)
 (case side2 => exact (Kd.R_reads' HOq173.out).2.1)
 (case side3 => exact (Kd.R_reads' HOq174.out).2.2)
 (case side4 => exact (Kd.R_reads' HOq174.out).2.1)
 (case side5 => exact (Kd.R_reads' HOq175.out).2.2)
 (case side6 => exact (Kd.R_reads' HOq175.out).2.1)
 (case side7 => exact (Kd.R_reads' HOq278.out).2.2)
 (case side8 => exact (Kd.R_reads' HOq278.out).2.1)
 (case side9 => exact (Kd.R_reads' HOq279.out).2.2)
 (case side10 => exact (Kd.R_reads' HOq279.out).2.1)
 (case side11 => exact (Kd.R_reads' HOq280.out).2.2)
 (case side12 => exact (Kd.R_reads' HOq280.out).2.1)
 rintro e w288 ⟨rfl, hb⟩
 refine ⟨_, rfl, ?_⟩
 replace HOq148 := R_b HOq148 hb
 replace HOq149 := R_b HOq149 hb
 replace HOq150 := R_b HOq150 hb
 replace HOq173 := R_b HOq173 hb
 replace HOq174 := R_b HOq174 hb
 replace HOq175 := R_b HOq175 hb
 replace HOq203 := R_b HOq203 hb
 replace HOq204 := R_b HOq204 hb
 replace HOq205 := R_b HOq205 hb
 replace HOq238 := R_b HOq238 hb
 replace HOq239 := R_b HOq239 hb
 replace HOq240 := R_b HOq240 hb
 replace HOq278 := R_b HOq278 hb
 replace HOq279 := R_b HOq279 hb
 replace HOq280 := R_b HOq280 hb
 replace HKg1 := B_b HKg1 hb
 replace HKg4 := B_b HKg4 hb
 replace HKg138 := B_b HKg138 hb
 replace HKg181 := B_b HKg181 hb
 replace HKg211 := B_b HKg211 hb
 replace HKg246 := B_b HKg246 hb
 replace HS := Z_b HS hb
 replace HB := H_b HB hb
 clear hb
 refine hK.out _ _ ⟨(blk_cell HKg181.out 0).trans rfl, (blk_cell HKg181.out 1).trans rfl, (blk_cell HKg181.out 2).trans rfl, (blk_cell HKg181.out 3).trans rfl, (blk_cell HKg1.out 0).trans rfl, (blk_cell HKg1.out 1).trans rfl, (blk_cell HKg1.out 2).trans rfl, (blk_cell HKg1.out 3).trans rfl⟩ (fun hHeld => ?_)
 clear hK K; refine no 57 ?_; refine pu 4 58 ?_
 refine dn ?_
 try go_wp2
 have hb := below_drew (Below.refl w288.heap.size w288)
 replace HOq148 := R_b HOq148 hb
 replace HOq149 := R_b HOq149 hb
 replace HOq150 := R_b HOq150 hb
 replace HOq173 := R_b HOq173 hb
 replace HOq174 := R_b HOq174 hb
 replace HOq175 := R_b HOq175 hb
 replace HOq203 := R_b HOq203 hb
 replace HOq204 := R_b HOq204 hb
 replace HOq205 := R_b HOq205 hb
 replace HOq238 := R_b HOq238 hb
 replace HOq239 := R_b HOq239 hb
 replace HOq240 := R_b HOq240 hb
 replace HOq278 := R_b HOq278 hb
 replace HOq279 := R_b HOq279 hb
 replace HOq280 := R_b HOq280 hb
 replace HKg1 := B_b HKg1 hb
 replace HKg4 := B_b HKg4 hb
 replace HKg138 := B_b HKg138 hb
 replace HKg181 := B_b HKg181 hb
 replace HKg211 := B_b HKg211 hb
 replace HKg246 := B_b HKg246 hb
 replace HS := Z_b HS hb
 replace HB := H_b HB hb
 clear hb
 refine start_ (n := 5) (S := fun w' => w'.cell? ⟨g211, 0, none⟩ = some (.int .i64 t198) ∧ w'.cell? ⟨g211, 1, none⟩ = some (.slice Aq203 t199.length cq203) ∧ w'.cell? ⟨g211, 2, none⟩ = some (.slice Aq204 t200.length cq204) ∧ w'.cell? ⟨g211, 3, none⟩ = some (.slice Aq205 t201.length cq205) ∧ w'.cell? ⟨g4, 0, none⟩ = some (.int .i64 a1_0) ∧ w'.cell? ⟨g4, 1, none⟩ = some (.slice A1_1 l1_1.length c1_1) ∧ w'.cell? ⟨g4, 2, none⟩ = some (.slice A1_2 l1_2.length c1_2) ∧ w'.cell? ⟨g4, 3, none⟩ = some (.slice A1_3 l1_3.length c1_3)) (ds := []) #[false, false, false, false, false] sqk rfl rfl ⟨(blk_cell HKg211.out 0).trans rfl, (blk_cell HKg211.out 1).trans rfl, (blk_cell HKg211.out 2).trans rfl, (blk_cell HKg211.out 3).trans rfl, (blk_cell HKg4.out 0).trans rfl, (blk_cell HKg4.out 1).trans rfl, (blk_cell HKg4.out 2).trans rfl, (blk_cell HKg4.out 3).trans rfl⟩ (fun hHeld => ?_)
 generalize w288.drew = w290 at HOq148 HOq149 HOq150 HOq173 HOq174 HOq175 HOq203 HOq204 HOq205 HOq238 HOq239 HOq240 HOq278 HOq279 HOq280 HKg1 HKg4 HKg138 HKg181 HKg211 HKg246 HB HS hHeld ⊢
 refine ta 0 59 ?_; refine ta 1 60 ?_
 refine on 2 (some 61) (fun K hK => ?_)
 refine goes_ Try.func22 sqk rfl #[.agg #[.int .i64 a1_0, .slice A1_1 l1_1.length c1_1, .slice A1_2 l1_2.length c1_2, .slice A1_3 l1_3.length c1_3]] (by rfl) rfl rfl sqm ?_
 with_reducible refine (laws_toAllowed.calls k a1_0 _ _ l1_1 _ _ l1_2 _ _ l1_3 t292 t293 t294 t295 _ ?side1 ?side2 ?side3 ?side4 ?side5 ?side6 E291.out).mono ?_
 (case side1 => exact Kd.C_below HR1_1.out HB.out)
 (case side2 => exact HC1_1.out)
 (case side3 => exact Kd.C_below HR1_2.out HB.out)
 (case side4 => exact HC1_2.out)
 (case side5 => exact Kd.C_below HR1_3.out HB.out)
 (case side6 => exact HC1_3.out)
 rintro e w296 ⟨v_0, v_1, v_2, rfl, ho0, ho1, ho2, hb⟩
 obtain ⟨Aq297, cq297, rfl⟩ := Kd.R_slice ho0
 obtain ⟨Aq298, cq298, rfl⟩ := Kd.R_slice ho1
 obtain ⟨Aq299, cq299, rfl⟩ := Kd.R_slice ho2
 refine ⟨_, rfl, ?_⟩
 obtain ⟨Lq297, Uq297, Lq298, Uq298, Lq299, Uq299, LG303, UG304, HZ300, HAP302, HZ301, HOq297, HOq298, HOq299⟩ := R_made3 ho0 ho1 ho2 rfl HS.out hb HB.out.size
 replace HOq148 := R_b HOq148 hb
 replace HOq149 := R_b HOq149 hb
 replace HOq150 := R_b HOq150 hb
 replace HOq173 := R_b HOq173 hb
 replace HOq174 := R_b HOq174 hb
 replace HOq175 := R_b HOq175 hb
 replace HOq203 := R_b HOq203 hb
 replace HOq204 := R_b HOq204 hb
 replace HOq205 := R_b HOq205 hb
 replace HOq238 := R_b HOq238 hb
 replace HOq239 := R_b HOq239 hb
 replace HOq240 := R_b HOq240 hb
 replace HOq278 := R_b HOq278 hb
 replace HOq279 := R_b HOq279 hb
 replace HOq280 := R_b HOq280 hb
 replace HKg1 := B_b HKg1 hb
 replace HKg4 := B_b HKg4 hb
 replace HKg138 := B_b HKg138 hb
 replace HKg181 := B_b HKg181 hb
 replace HKg211 := B_b HKg211 hb
 replace HKg246 := B_b HKg246 hb
 replace HS := Z_b HS hb
 replace HB := H_b HB hb
 replace HS := HZ301
 clear ho0 ho1 ho2; clear hb
 refine hK.out _ _ ⟨(blk_cell HKg211.out 0).trans rfl, (blk_cell HKg211.out 1).trans rfl, (blk_cell HKg211.out 2).trans rfl, (blk_cell HKg211.out 3).trans rfl, (blk_cell HKg4.out 0).trans rfl, (blk_cell HKg4.out 1).trans rfl, (blk_cell HKg4.out 2).trans rfl, (blk_cell HKg4.out 3).trans rfl⟩ (fun hHeld => ?_)
 clear hK K; refine no 61 ?_
 refine on 3 (some 62) (fun K hK => ?_)
 refine goes_ Try.func24 sqk rfl #[.agg #[.int .i64 t198, .slice Aq203 t199.length cq203, .slice Aq204 t200.length cq204, .slice Aq205 t201.length cq205], .agg #[.int .i64 t292, .slice Aq297 t293.length cq297, .slice Aq298 t294.length cq298, .slice Aq299 t295.length cq299]] (by rfl) rfl rfl sqm ?_
 with_reducible refine (laws_eqAllowed.calls k t198 _ _ t199 _ _ t200 _ _ t201 t292 _ _ t293 _ _ t294 _ _ t295 true _ ?side1 ?side2 ?side3 ?side4 ?side5 ?side6 ?side7 ?side8 ?side9 ?side10 ?side11 ?side12 E305.out).mono ?_
 (case side1 => exact (Kd.R_reads' HOq203.out).2.2)
 (case side2 => exact (Kd.R_reads' HOq203.out).2.1)
 (case side3 => exact (Kd.R_reads' HOq204.out).2.2)
 (case side4 => exact (Kd.R_reads' HOq204.out).2.1)
 (case side5 => exact (Kd.R_reads' HOq205.out).2.2)
 (case side6 => exact (Kd.R_reads' HOq205.out).2.1)
 (case side7 => exact (Kd.R_reads' HOq297.out).2.2)
 (case side8 => exact (Kd.R_reads' HOq297.out).2.1)
 (case side9 => exact (Kd.R_reads' HOq298.out).2.2)
 (case side10 => exact (Kd.R_reads' HOq298.out).2.1)
 (case side11 => exact (Kd.R_reads' HOq299.out).2.2)
 (case side12 => exact (Kd.R_reads' HOq299.out).2.1)
 rintro e w307 ⟨rfl, hb⟩
 refine ⟨_, rfl, ?_⟩
 replace HOq148 := R_b HOq148 hb
 replace HOq149 := R_b HOq149 hb
 replace HOq150 := R_b HOq150 hb
 replace HOq173 := R_b HOq173 hb
 replace HOq174 := R_b HOq174 hb
 replace HOq175 := R_b HOq175 hb
 replace HOq203 := R_b HOq203 hb
 replace HOq204 := R_b HOq204 hb
 replace HOq205 := R_b HOq205 hb
 replace HOq238 := R_b HOq238 hb
 replace HOq239 := R_b HOq239 hb
 replace HOq240 := R_b HOq240 hb
 replace HOq278 := R_b HOq278 hb
 replace HOq279 := R_b HOq279 hb
 replace HOq280 := R_b HOq280 hb
 replace HOq297 := R_b HOq297 hb
 replace HOq298 := R_b HOq298 hb
 replace HOq299 := R_b HOq299 hb
 replace HKg1 := B_b HKg1 hb
 replace HKg4 := B_b HKg4 hb
 replace HKg138 := B_b HKg138 hb
 replace HKg181 := B_b HKg181 hb
 replace HKg211 := B_b HKg211 hb
 replace HKg246 := B_b HKg246 hb
 replace HS := Z_b HS hb
 replace HB := H_b HB hb
 clear hb
 refine hK.out _ _ ⟨(blk_cell HKg211.out 0).trans rfl, (blk_cell HKg211.out 1).trans rfl, (blk_cell HKg211.out 2).trans rfl, (blk_cell HKg211.out 3).trans rfl, (blk_cell HKg4.out 0).trans rfl, (blk_cell HKg4.out 1).trans rfl, (blk_cell HKg4.out 2).trans rfl, (blk_cell HKg4.out 3).trans rfl⟩ (fun hHeld => ?_)
 clear hK K; refine no 62 ?_; refine pu 4 63 ?_
 refine dn ?_
 have hc309 : w307.cell? ⟨g181, 0, none⟩ = some (.int .i64 t168) := (blk_cell HKg181.out 0).trans rfl
 have hc310 : w307.cell? ⟨g181, 1, none⟩ = some (.slice Aq173 t169.length cq173) := (blk_cell HKg181.out 1).trans rfl
 have hc311 : w307.cell? ⟨g181, 2, none⟩ = some (.slice Aq174 t170.length cq174) := (blk_cell HKg181.out 2).trans rfl
 have hc312 : w307.cell? ⟨g181, 3, none⟩ = some (.slice Aq175 t171.length cq175) := (blk_cell HKg181.out 3).trans rfl
 go_wp2_with (first | ((with_reducible refine gate_callee (f := 41) rfl ?_); refine goesL_ (some 66) rfl rfl Try.func41 sqk rfl #[.agg #[.int .i64 t168, .slice Aq173 t169.length cq173, .slice Aq174 t170.length cq174, .slice Aq175 t171.length cq175], .int .i64 1] rfl sqm ?_; (with_reducible refine (laws_markAllowed.calls k t168 (fun x => Lq173 ≤ x ∧ x < Uq173) (.slice Aq173 t169.length cq173) t169 (fun x => Lq174 ≤ x ∧ x < Uq174) (.slice Aq174 t170.length cq174) t170 (fun x => Lq175 ≤ x ∧ x < Uq175) (.slice Aq175 t171.length cq175) t171 1 t314 t315 t316 t317 w _ ?side1 ?side2 ?side3 ?side4 ?side5 ?side6 ?side7 ?side8 ?side9 ?side10 E313.out).mono ?_); (case side1 => exact HB.out); (case side2 => exact HOq173.out); (case side3 => (intro x h1 h2; have h3_ : Lq173 ≤ x ∧ x < Uq173 := h1; have h4_ : Lq174 ≤ x ∧ x < Uq174 := h2; have h5_ := HAP178.out; omega)); (case side4 => (intro x h1 h2; have h3_ : Lq173 ≤ x ∧ x < Uq173 := h1; have h4_ : Lq175 ≤ x ∧ x < Uq175 := h2; have h5_ := HAP178.out; omega)); (case side5 => exact HOq174.out); (case side6 => (intro x h1 h2; have h3_ : Lq174 ≤ x ∧ x < Uq174 := h1; have h4_ : Lq173 ≤ x ∧ x < Uq173 := h2; have h5_ := HAP178.out; omega)); (case side7 => (intro x h1 h2; have h3_ : Lq174 ≤ x ∧ x < Uq174 := h1; have h4_ : Lq175 ≤ x ∧ x < Uq175 := h2; have h5_ := HAP178.out; omega)); (case side8 => exact HOq175.out); (case side9 => (intro x h1 h2; have h3_ : Lq175 ≤ x ∧ x < Uq175 := h1; have h4_ : Lq173 ≤ x ∧ x < Uq173 := h2; have h5_ := HAP178.out; omega)); (case side10 => (intro x h1 h2; have h3_ : Lq175 ≤ x ∧ x < Uq175 := h1; have h4_ : Lq174 ≤ x ∧ x < Uq174 := h2; have h5_ := HAP178.out; omega)); rintro e w318 ⟨rfl, hy_0, hy_1, hy_2, hb_, hk⟩; refine ⟨_, rfl, ?_⟩; (try clear hc309 hc310 hc311 hc312); replace HOq148 := R_k HOq148 hk (fun x h1 h2 => (by have := HZ3.out; have := HZ6.out; have := HZ151.out; have := HZ151m.out; have := HZ176.out; have := HZ183.out; have := HZ206.out; have := HZ213.out; have := HZ241.out; have := HZ248.out; have := HZ281.out; have := HZ300.out; have h3_ : L139 ≤ x ∧ x < U140 := h1; have h4_ : (Lq173 ≤ x ∧ x < Uq173) ∨ (Lq174 ≤ x ∧ x < Uq174) ∨ (Lq175 ≤ x ∧ x < Uq175) := h2; omega)); replace HOq149 := R_k HOq149 hk (fun x h1 h2 => (by have := HZ3.out; have := HZ6.out; have := HZ151.out; have := HZ151m.out; have := HZ176.out; have := HZ183.out; have := HZ206.out; have := HZ213.out; have := HZ241.out; have := HZ248.out; have := HZ281.out; have := HZ300.out; have h3_ : L141 ≤ x ∧ x < U142 := h1; have h4_ : (Lq173 ≤ x ∧ x < Uq173) ∨ (Lq174 ≤ x ∧ x < Uq174) ∨ (Lq175 ≤ x ∧ x < Uq175) := h2; omega)); replace HOq150 := R_k HOq150 hk (fun x h1 h2 => (by have := HZ3.out; have := HZ6.out; have := HZ151.out; have := HZ151m.out; have := HZ176.out; have := HZ183.out; have := HZ206.out; have := HZ213.out; have := HZ241.out; have := HZ248.out; have := HZ281.out; have := HZ300.out; have h3_ : L143 ≤ x ∧ x < U144 := h1; have h4_ : (Lq173 ≤ x ∧ x < Uq173) ∨ (Lq174 ≤ x ∧ x < Uq174) ∨ (Lq175 ≤ x ∧ x < Uq175) := h2; omega)); replace HOq203 := R_k HOq203 hk (fun x h1 h2 => (by have := HZ3.out; have := HZ6.out; have := HZ151.out; have := HZ151m.out; have := HZ176.out; have := HZ183.out; have := HZ206.out; have := HZ213.out; have := HZ241.out; have := HZ248.out; have := HZ281.out; have := HZ300.out; have h3_ : Lq203 ≤ x ∧ x < Uq203 := h1; have h4_ : (Lq173 ≤ x ∧ x < Uq173) ∨ (Lq174 ≤ x ∧ x < Uq174) ∨ (Lq175 ≤ x ∧ x < Uq175) := h2; omega)); replace HOq204 := R_k HOq204 hk (fun x h1 h2 => (by have := HZ3.out; have := HZ6.out; have := HZ151.out; have := HZ151m.out; have := HZ176.out; have := HZ183.out; have := HZ206.out; have := HZ213.out; have := HZ241.out; have := HZ248.out; have := HZ281.out; have := HZ300.out; have h3_ : Lq204 ≤ x ∧ x < Uq204 := h1; have h4_ : (Lq173 ≤ x ∧ x < Uq173) ∨ (Lq174 ≤ x ∧ x < Uq174) ∨ (Lq175 ≤ x ∧ x < Uq175) := h2; omega)); replace HOq205 := R_k HOq205 hk (fun x h1 h2 => (by have := HZ3.out; have := HZ6.out; have := HZ151.out; have := HZ151m.out; have := HZ176.out; have := HZ183.out; have := HZ206.out; have := HZ213.out; have := HZ241.out; have := HZ248.out; have := HZ281.out; have := HZ300.out; have h3_ : Lq205 ≤ x ∧ x < Uq205 := h1; have h4_ : (Lq173 ≤ x ∧ x < Uq173) ∨ (Lq174 ≤ x ∧ x < Uq174) ∨ (Lq175 ≤ x ∧ x < Uq175) := h2; omega)); replace HOq238 := R_k HOq238 hk (fun x h1 h2 => (by have := HZ3.out; have := HZ6.out; have := HZ151.out; have := HZ151m.out; have := HZ176.out; have := HZ183.out; have := HZ206.out; have := HZ213.out; have := HZ241.out; have := HZ248.out; have := HZ281.out; have := HZ300.out; have h3_ : Lq238 ≤ x ∧ x < Uq238 := h1; have h4_ : (Lq173 ≤ x ∧ x < Uq173) ∨ (Lq174 ≤ x ∧ x < Uq174) ∨ (Lq175 ≤ x ∧ x < Uq175) := h2; omega)); replace HOq239 := R_k HOq239 hk (fun x h1 h2 => (by have := HZ3.out; have := HZ6.out; have := HZ151.out; have := HZ151m.out; have := HZ176.out; have := HZ183.out; have := HZ206.out; have := HZ213.out; have := HZ241.out; have := HZ248.out; have := HZ281.out; have := HZ300.out; have h3_ : Lq239 ≤ x ∧ x < Uq239 := h1; have h4_ : (Lq173 ≤ x ∧ x < Uq173) ∨ (Lq174 ≤ x ∧ x < Uq174) ∨ (Lq175 ≤ x ∧ x < Uq175) := h2; omega)); replace HOq240 := R_k HOq240 hk (fun x h1 h2 => (by have := HZ3.out; have := HZ6.out; have := HZ151.out; have := HZ151m.out; have := HZ176.out; have := HZ183.out; have := HZ206.out; have := HZ213.out; have := HZ241.out; have := HZ248.out; have := HZ281.out; have := HZ300.out; have h3_ : Lq240 ≤ x ∧ x < Uq240 := h1; have h4_ : (Lq173 ≤ x ∧ x < Uq173) ∨ (Lq174 ≤ x ∧ x < Uq174) ∨ (Lq175 ≤ x ∧ x < Uq175) := h2; omega)); replace HOq278 := R_k HOq278 hk (fun x h1 h2 => (by have := HZ3.out; have := HZ6.out; have := HZ151.out; have := HZ151m.out; have := HZ176.out; have := HZ183.out; have := HZ206.out; have := HZ213.out; have := HZ241.out; have := HZ248.out; have := HZ281.out; have := HZ300.out; have h3_ : Lq278 ≤ x ∧ x < Uq278 := h1; have h4_ : (Lq173 ≤ x ∧ x < Uq173) ∨ (Lq174 ≤ x ∧ x < Uq174) ∨ (Lq175 ≤ x ∧ x < Uq175) := h2; omega)); replace HOq279 := R_k HOq279 hk (fun x h1 h2 => (by have := HZ3.out; have := HZ6.out; have := HZ151.out; have := HZ151m.out; have := HZ176.out; have := HZ183.out; have := HZ206.out; have := HZ213.out; have := HZ241.out; have := HZ248.out; have := HZ281.out; have := HZ300.out; have h3_ : Lq279 ≤ x ∧ x < Uq279 := h1; have h4_ : (Lq173 ≤ x ∧ x < Uq173) ∨ (Lq174 ≤ x ∧ x < Uq174) ∨ (Lq175 ≤ x ∧ x < Uq175) := h2; omega)); replace HOq280 := R_k HOq280 hk (fun x h1 h2 => (by have := HZ3.out; have := HZ6.out; have := HZ151.out; have := HZ151m.out; have := HZ176.out; have := HZ183.out; have := HZ206.out; have := HZ213.out; have := HZ241.out; have := HZ248.out; have := HZ281.out; have := HZ300.out; have h3_ : Lq280 ≤ x ∧ x < Uq280 := h1; have h4_ : (Lq173 ≤ x ∧ x < Uq173) ∨ (Lq174 ≤ x ∧ x < Uq174) ∨ (Lq175 ≤ x ∧ x < Uq175) := h2; omega)); replace HOq297 := R_k HOq297 hk (fun x h1 h2 => (by have := HZ3.out; have := HZ6.out; have := HZ151.out; have := HZ151m.out; have := HZ176.out; have := HZ183.out; have := HZ206.out; have := HZ213.out; have := HZ241.out; have := HZ248.out; have := HZ281.out; have := HZ300.out; have h3_ : Lq297 ≤ x ∧ x < Uq297 := h1; have h4_ : (Lq173 ≤ x ∧ x < Uq173) ∨ (Lq174 ≤ x ∧ x < Uq174) ∨ (Lq175 ≤ x ∧ x < Uq175) := h2; omega)); replace HOq298 := R_k HOq298 hk (fun x h1 h2 => (by have := HZ3.out; have := HZ6.out; have := HZ151.out; have := HZ151m.out; have := HZ176.out; have := HZ183.out; have := HZ206.out; have := HZ213.out; have := HZ241.out; have := HZ248.out; have := HZ281.out; have := HZ300.out; have h3_ : Lq298 ≤ x ∧ x < Uq298 := h1; have h4_ : (Lq173 ≤ x ∧ x < Uq173) ∨ (Lq174 ≤ x ∧ x < Uq174) ∨ (Lq175 ≤ x ∧ x < Uq175) := h2; omega)); replace HOq299 := R_k HOq299 hk (fun x h1 h2 => (by have := HZ3.out; have := HZ6.out; have := HZ151.out; have := HZ151m.out; have := HZ176.out; have := HZ183.out; have := HZ206.out; have := HZ213.out; have := HZ241.out; have := HZ248.out; have := HZ281.out; have := HZ300.out; have h3_ : Lq299 ≤ x ∧ x < Uq299 := h1; have h4_ : (Lq173 ≤ x ∧ x < Uq173) ∨ (Lq174 ≤ x ∧ x < Uq174) ∨ (Lq175 ≤ x ∧ x < Uq175) := h2; omega)); replace HKg1 := B_k HKg1 hk (fun h2 => (by have := HZ3.out; have := HZ6.out; have := HZ151.out; have := HZ151m.out; have := HZ176.out; have := HZ183.out; have := HZ206.out; have := HZ213.out; have := HZ241.out; have := HZ248.out; have := HZ281.out; have := HZ300.out; have h4_ : (Lq173 ≤ g1 ∧ g1 < Uq173) ∨ (Lq174 ≤ g1 ∧ g1 < Uq174) ∨ (Lq175 ≤ g1 ∧ g1 < Uq175) := h2; omega)); replace HKg4 := B_k HKg4 hk (fun h2 => (by have := HZ3.out; have := HZ6.out; have := HZ151.out; have := HZ151m.out; have := HZ176.out; have := HZ183.out; have := HZ206.out; have := HZ213.out; have := HZ241.out; have := HZ248.out; have := HZ281.out; have := HZ300.out; have h4_ : (Lq173 ≤ g4 ∧ g4 < Uq173) ∨ (Lq174 ≤ g4 ∧ g4 < Uq174) ∨ (Lq175 ≤ g4 ∧ g4 < Uq175) := h2; omega)); replace HKg138 := B_k HKg138 hk (fun h2 => (by have := HZ3.out; have := HZ6.out; have := HZ151.out; have := HZ151m.out; have := HZ176.out; have := HZ183.out; have := HZ206.out; have := HZ213.out; have := HZ241.out; have := HZ248.out; have := HZ281.out; have := HZ300.out; have h4_ : (Lq173 ≤ g138 ∧ g138 < Uq173) ∨ (Lq174 ≤ g138 ∧ g138 < Uq174) ∨ (Lq175 ≤ g138 ∧ g138 < Uq175) := h2; omega)); replace HKg181 := B_k HKg181 hk (fun h2 => (by have := HZ3.out; have := HZ6.out; have := HZ151.out; have := HZ151m.out; have := HZ176.out; have := HZ183.out; have := HZ206.out; have := HZ213.out; have := HZ241.out; have := HZ248.out; have := HZ281.out; have := HZ300.out; have h4_ : (Lq173 ≤ g181 ∧ g181 < Uq173) ∨ (Lq174 ≤ g181 ∧ g181 < Uq174) ∨ (Lq175 ≤ g181 ∧ g181 < Uq175) := h2; omega)); replace HKg211 := B_k HKg211 hk (fun h2 => (by have := HZ3.out; have := HZ6.out; have := HZ151.out; have := HZ151m.out; have := HZ176.out; have := HZ183.out; have := HZ206.out; have := HZ213.out; have := HZ241.out; have := HZ248.out; have := HZ281.out; have := HZ300.out; have h4_ : (Lq173 ≤ g211 ∧ g211 < Uq173) ∨ (Lq174 ≤ g211 ∧ g211 < Uq174) ∨ (Lq175 ≤ g211 ∧ g211 < Uq175) := h2; omega)); replace HKg246 := B_k HKg246 hk (fun h2 => (by have := HZ3.out; have := HZ6.out; have := HZ151.out; have := HZ151m.out; have := HZ176.out; have := HZ183.out; have := HZ206.out; have := HZ213.out; have := HZ241.out; have := HZ248.out; have := HZ281.out; have := HZ300.out; have h4_ : (Lq173 ≤ g246 ∧ g246 < Uq173) ∨ (Lq174 ≤ g246 ∧ g246 < Uq174) ∨ (Lq175 ≤ g246 ∧ g246 < Uq175) := h2; omega)); replace HS := Z_k HS hk; replace HB := Aside0.mk hb_; have HLN319 : Aside0 (t169.length = t315.length) := ⟨(Kd.R_reads' hy_0).1⟩; replace HOq173 := R_same HOq173 rfl hy_0; have HLN320 : Aside0 (t170.length = t316.length) := ⟨(Kd.R_reads' hy_1).1⟩; replace HOq174 := R_same HOq174 rfl hy_1; have HLN321 : Aside0 (t171.length = t317.length) := ⟨(Kd.R_reads' hy_2).1⟩; replace HOq175 := R_same HOq175 rfl hy_2; (try clear hk hb_); (try clear hy_0); (try clear hy_1); (try clear hy_2); have hc322 : w318.cell? ⟨g211, 0, none⟩ = some (.int .i64 t198) := (blk_cell HKg211.out 0).trans rfl; have hc323 : w318.cell? ⟨g211, 1, none⟩ = some (.slice Aq203 t199.length cq203) := (blk_cell HKg211.out 1).trans rfl; have hc324 : w318.cell? ⟨g211, 2, none⟩ = some (.slice Aq204 t200.length cq204) := (blk_cell HKg211.out 2).trans rfl; have hc325 : w318.cell? ⟨g211, 3, none⟩ = some (.slice Aq205 t201.length cq205) := (blk_cell HKg211.out 3).trans rfl) | ((with_reducible refine gate_callee (f := 41) rfl ?_); refine goesL_ (some 69) rfl rfl Try.func41 sqk rfl #[.agg #[.int .i64 t198, .slice Aq203 t199.length cq203, .slice Aq204 t200.length cq204, .slice Aq205 t201.length cq205], .int .i64 t314] rfl sqm ?_; (with_reducible refine (laws_markAllowed.calls k t198 (fun x => Lq203 ≤ x ∧ x < Uq203) (.slice Aq203 t199.length cq203) t199 (fun x => Lq204 ≤ x ∧ x < Uq204) (.slice Aq204 t200.length cq204) t200 (fun x => Lq205 ≤ x ∧ x < Uq205) (.slice Aq205 t201.length cq205) t201 t314 t327 t328 t329 t330 w _ ?side1 ?side2 ?side3 ?side4 ?side5 ?side6 ?side7 ?side8 ?side9 ?side10 E326.out).mono ?_); (case side1 => exact HB.out); (case side2 => exact HOq203.out); (case side3 => (intro x h1 h2; have h3_ : Lq203 ≤ x ∧ x < Uq203 := h1; have h4_ : Lq204 ≤ x ∧ x < Uq204 := h2; have h5_ := HAP208.out; omega)); (case side4 => (intro x h1 h2; have h3_ : Lq203 ≤ x ∧ x < Uq203 := h1; have h4_ : Lq205 ≤ x ∧ x < Uq205 := h2; have h5_ := HAP208.out; omega)); (case side5 => exact HOq204.out); (case side6 => (intro x h1 h2; have h3_ : Lq204 ≤ x ∧ x < Uq204 := h1; have h4_ : Lq203 ≤ x ∧ x < Uq203 := h2; have h5_ := HAP208.out; omega)); (case side7 => (intro x h1 h2; have h3_ : Lq204 ≤ x ∧ x < Uq204 := h1; have h4_ : Lq205 ≤ x ∧ x < Uq205 := h2; have h5_ := HAP208.out; omega)); (case side8 => exact HOq205.out); (case side9 => (intro x h1 h2; have h3_ : Lq205 ≤ x ∧ x < Uq205 := h1; have h4_ : Lq203 ≤ x ∧ x < Uq203 := h2; have h5_ := HAP208.out; omega)); (case side10 => (intro x h1 h2; have h3_ : Lq205 ≤ x ∧ x < Uq205 := h1; have h4_ : Lq204 ≤ x ∧ x < Uq204 := h2; have h5_ := HAP208.out; omega)); rintro e w331 ⟨rfl, hy_0, hy_1, hy_2, hb_, hk⟩; refine ⟨_, rfl, ?_⟩; (try clear hc322 hc323 hc324 hc325); replace HOq148 := R_k HOq148 hk (fun x h1 h2 => (by have := HZ3.out; have := HZ6.out; have := HZ151.out; have := HZ151m.out; have := HZ176.out; have := HZ183.out; have := HZ206.out; have := HZ213.out; have := HZ241.out; have := HZ248.out; have := HZ281.out; have := HZ300.out; have h3_ : L139 ≤ x ∧ x < U140 := h1; have h4_ : (Lq203 ≤ x ∧ x < Uq203) ∨ (Lq204 ≤ x ∧ x < Uq204) ∨ (Lq205 ≤ x ∧ x < Uq205) := h2; omega)); replace HOq149 := R_k HOq149 hk (fun x h1 h2 => (by have := HZ3.out; have := HZ6.out; have := HZ151.out; have := HZ151m.out; have := HZ176.out; have := HZ183.out; have := HZ206.out; have := HZ213.out; have := HZ241.out; have := HZ248.out; have := HZ281.out; have := HZ300.out; have h3_ : L141 ≤ x ∧ x < U142 := h1; have h4_ : (Lq203 ≤ x ∧ x < Uq203) ∨ (Lq204 ≤ x ∧ x < Uq204) ∨ (Lq205 ≤ x ∧ x < Uq205) := h2; omega)); replace HOq150 := R_k HOq150 hk (fun x h1 h2 => (by have := HZ3.out; have := HZ6.out; have := HZ151.out; have := HZ151m.out; have := HZ176.out; have := HZ183.out; have := HZ206.out; have := HZ213.out; have := HZ241.out; have := HZ248.out; have := HZ281.out; have := HZ300.out; have h3_ : L143 ≤ x ∧ x < U144 := h1; have h4_ : (Lq203 ≤ x ∧ x < Uq203) ∨ (Lq204 ≤ x ∧ x < Uq204) ∨ (Lq205 ≤ x ∧ x < Uq205) := h2; omega)); replace HOq173 := R_k HOq173 hk (fun x h1 h2 => (by have := HZ3.out; have := HZ6.out; have := HZ151.out; have := HZ151m.out; have := HZ176.out; have := HZ183.out; have := HZ206.out; have := HZ213.out; have := HZ241.out; have := HZ248.out; have := HZ281.out; have := HZ300.out; have h3_ : Lq173 ≤ x ∧ x < Uq173 := h1; have h4_ : (Lq203 ≤ x ∧ x < Uq203) ∨ (Lq204 ≤ x ∧ x < Uq204) ∨ (Lq205 ≤ x ∧ x < Uq205) := h2; omega)); replace HOq174 := R_k HOq174 hk (fun x h1 h2 => (by have := HZ3.out; have := HZ6.out; have := HZ151.out; have := HZ151m.out; have := HZ176.out; have := HZ183.out; have := HZ206.out; have := HZ213.out; have := HZ241.out; have := HZ248.out; have := HZ281.out; have := HZ300.out; have h3_ : Lq174 ≤ x ∧ x < Uq174 := h1; have h4_ : (Lq203 ≤ x ∧ x < Uq203) ∨ (Lq204 ≤ x ∧ x < Uq204) ∨ (Lq205 ≤ x ∧ x < Uq205) := h2; omega)); replace HOq175 := R_k HOq175 hk (fun x h1 h2 => (by have := HZ3.out; have := HZ6.out; have := HZ151.out; have := HZ151m.out; have := HZ176.out; have := HZ183.out; have := HZ206.out; have := HZ213.out; have := HZ241.out; have := HZ248.out; have := HZ281.out; have := HZ300.out; have h3_ : Lq175 ≤ x ∧ x < Uq175 := h1; have h4_ : (Lq203 ≤ x ∧ x < Uq203) ∨ (Lq204 ≤ x ∧ x < Uq204) ∨ (Lq205 ≤ x ∧ x < Uq205) := h2; omega)); replace HOq238 := R_k HOq238 hk (fun x h1 h2 => (by have := HZ3.out; have := HZ6.out; have := HZ151.out; have := HZ151m.out; have := HZ176.out; have := HZ183.out; have := HZ206.out; have := HZ213.out; have := HZ241.out; have := HZ248.out; have := HZ281.out; have := HZ300.out; have h3_ : Lq238 ≤ x ∧ x < Uq238 := h1; have h4_ : (Lq203 ≤ x ∧ x < Uq203) ∨ (Lq204 ≤ x ∧ x < Uq204) ∨ (Lq205 ≤ x ∧ x < Uq205) := h2; omega)); replace HOq239 := R_k HOq239 hk (fun x h1 h2 => (by have := HZ3.out; have := HZ6.out; have := HZ151.out; have := HZ151m.out; have := HZ176.out; have := HZ183.out; have := HZ206.out; have := HZ213.out; have := HZ241.out; have := HZ248.out; have := HZ281.out; have := HZ300.out; have h3_ : Lq239 ≤ x ∧ x < Uq239 := h1; have h4_ : (Lq203 ≤ x ∧ x < Uq203) ∨ (Lq204 ≤ x ∧ x < Uq204) ∨ (Lq205 ≤ x ∧ x < Uq205) := h2; omega)); replace HOq240 := R_k HOq240 hk (fun x h1 h2 => (by have := HZ3.out; have := HZ6.out; have := HZ151.out; have := HZ151m.out; have := HZ176.out; have := HZ183.out; have := HZ206.out; have := HZ213.out; have := HZ241.out; have := HZ248.out; have := HZ281.out; have := HZ300.out; have h3_ : Lq240 ≤ x ∧ x < Uq240 := h1; have h4_ : (Lq203 ≤ x ∧ x < Uq203) ∨ (Lq204 ≤ x ∧ x < Uq204) ∨ (Lq205 ≤ x ∧ x < Uq205) := h2; omega)); replace HOq278 := R_k HOq278 hk (fun x h1 h2 => (by have := HZ3.out; have := HZ6.out; have := HZ151.out; have := HZ151m.out; have := HZ176.out; have := HZ183.out; have := HZ206.out; have := HZ213.out; have := HZ241.out; have := HZ248.out; have := HZ281.out; have := HZ300.out; have h3_ : Lq278 ≤ x ∧ x < Uq278 := h1; have h4_ : (Lq203 ≤ x ∧ x < Uq203) ∨ (Lq204 ≤ x ∧ x < Uq204) ∨ (Lq205 ≤ x ∧ x < Uq205) := h2; omega)); replace HOq279 := R_k HOq279 hk (fun x h1 h2 => (by have := HZ3.out; have := HZ6.out; have := HZ151.out; have := HZ151m.out; have := HZ176.out; have := HZ183.out; have := HZ206.out; have := HZ213.out; have := HZ241.out; have := HZ248.out; have := HZ281.out; have := HZ300.out; have h3_ : Lq279 ≤ x ∧ x < Uq279 := h1; have h4_ : (Lq203 ≤ x ∧ x < Uq203) ∨ (Lq204 ≤ x ∧ x < Uq204) ∨ (Lq205 ≤ x ∧ x < Uq205) := h2; omega)); replace HOq280 := R_k HOq280 hk (fun x h1 h2 => (by have := HZ3.out; have := HZ6.out; have := HZ151.out; have := HZ151m.out; have := HZ176.out; have := HZ183.out; have := HZ206.out; have := HZ213.out; have := HZ241.out; have := HZ248.out; have := HZ281.out; have := HZ300.out; have h3_ : Lq280 ≤ x ∧ x < Uq280 := h1; have h4_ : (Lq203 ≤ x ∧ x < Uq203) ∨ (Lq204 ≤ x ∧ x < Uq204) ∨ (Lq205 ≤ x ∧ x < Uq205) := h2; omega)); replace HOq297 := R_k HOq297 hk (fun x h1 h2 => (by have := HZ3.out; have := HZ6.out; have := HZ151.out; have := HZ151m.out; have := HZ176.out; have := HZ183.out; have := HZ206.out; have := HZ213.out; have := HZ241.out; have := HZ248.out; have := HZ281.out; have := HZ300.out; have h3_ : Lq297 ≤ x ∧ x < Uq297 := h1; have h4_ : (Lq203 ≤ x ∧ x < Uq203) ∨ (Lq204 ≤ x ∧ x < Uq204) ∨ (Lq205 ≤ x ∧ x < Uq205) := h2; omega)); replace HOq298 := R_k HOq298 hk (fun x h1 h2 => (by have := HZ3.out; have := HZ6.out; have := HZ151.out; have := HZ151m.out; have := HZ176.out; have := HZ183.out; have := HZ206.out; have := HZ213.out; have := HZ241.out; have := HZ248.out; have := HZ281.out; have := HZ300.out; have h3_ : Lq298 ≤ x ∧ x < Uq298 := h1; have h4_ : (Lq203 ≤ x ∧ x < Uq203) ∨ (Lq204 ≤ x ∧ x < Uq204) ∨ (Lq205 ≤ x ∧ x < Uq205) := h2; omega)); replace HOq299 := R_k HOq299 hk (fun x h1 h2 => (by have := HZ3.out; have := HZ6.out; have := HZ151.out; have := HZ151m.out; have := HZ176.out; have := HZ183.out; have := HZ206.out; have := HZ213.out; have := HZ241.out; have := HZ248.out; have := HZ281.out; have := HZ300.out; have h3_ : Lq299 ≤ x ∧ x < Uq299 := h1; have h4_ : (Lq203 ≤ x ∧ x < Uq203) ∨ (Lq204 ≤ x ∧ x < Uq204) ∨ (Lq205 ≤ x ∧ x < Uq205) := h2; omega)); replace HKg1 := B_k HKg1 hk (fun h2 => (by have := HZ3.out; have := HZ6.out; have := HZ151.out; have := HZ151m.out; have := HZ176.out; have := HZ183.out; have := HZ206.out; have := HZ213.out; have := HZ241.out; have := HZ248.out; have := HZ281.out; have := HZ300.out; have h4_ : (Lq203 ≤ g1 ∧ g1 < Uq203) ∨ (Lq204 ≤ g1 ∧ g1 < Uq204) ∨ (Lq205 ≤ g1 ∧ g1 < Uq205) := h2; omega)); replace HKg4 := B_k HKg4 hk (fun h2 => (by have := HZ3.out; have := HZ6.out; have := HZ151.out; have := HZ151m.out; have := HZ176.out; have := HZ183.out; have := HZ206.out; have := HZ213.out; have := HZ241.out; have := HZ248.out; have := HZ281.out; have := HZ300.out; have h4_ : (Lq203 ≤ g4 ∧ g4 < Uq203) ∨ (Lq204 ≤ g4 ∧ g4 < Uq204) ∨ (Lq205 ≤ g4 ∧ g4 < Uq205) := h2; omega)); replace HKg138 := B_k HKg138 hk (fun h2 => (by have := HZ3.out; have := HZ6.out; have := HZ151.out; have := HZ151m.out; have := HZ176.out; have := HZ183.out; have := HZ206.out; have := HZ213.out; have := HZ241.out; have := HZ248.out; have := HZ281.out; have := HZ300.out; have h4_ : (Lq203 ≤ g138 ∧ g138 < Uq203) ∨ (Lq204 ≤ g138 ∧ g138 < Uq204) ∨ (Lq205 ≤ g138 ∧ g138 < Uq205) := h2; omega)); replace HKg181 := B_k HKg181 hk (fun h2 => (by have := HZ3.out; have := HZ6.out; have := HZ151.out; have := HZ151m.out; have := HZ176.out; have := HZ183.out; have := HZ206.out; have := HZ213.out; have := HZ241.out; have := HZ248.out; have := HZ281.out; have := HZ300.out; have h4_ : (Lq203 ≤ g181 ∧ g181 < Uq203) ∨ (Lq204 ≤ g181 ∧ g181 < Uq204) ∨ (Lq205 ≤ g181 ∧ g181 < Uq205) := h2; omega)); replace HKg211 := B_k HKg211 hk (fun h2 => (by have := HZ3.out; have := HZ6.out; have := HZ151.out; have := HZ151m.out; have := HZ176.out; have := HZ183.out; have := HZ206.out; have := HZ213.out; have := HZ241.out; have := HZ248.out; have := HZ281.out; have := HZ300.out; have h4_ : (Lq203 ≤ g211 ∧ g211 < Uq203) ∨ (Lq204 ≤ g211 ∧ g211 < Uq204) ∨ (Lq205 ≤ g211 ∧ g211 < Uq205) := h2; omega)); replace HKg246 := B_k HKg246 hk (fun h2 => (by have := HZ3.out; have := HZ6.out; have := HZ151.out; have := HZ151m.out; have := HZ176.out; have := HZ183.out; have := HZ206.out; have := HZ213.out; have := HZ241.out; have := HZ248.out; have := HZ281.out; have := HZ300.out; have h4_ : (Lq203 ≤ g246 ∧ g246 < Uq203) ∨ (Lq204 ≤ g246 ∧ g246 < Uq204) ∨ (Lq205 ≤ g246 ∧ g246 < Uq205) := h2; omega)); replace HS := Z_k HS hk; replace HB := Aside0.mk hb_; have HLN332 : Aside0 (t199.length = t328.length) := ⟨(Kd.R_reads' hy_0).1⟩; replace HOq203 := R_same HOq203 rfl hy_0; have HLN333 : Aside0 (t200.length = t329.length) := ⟨(Kd.R_reads' hy_1).1⟩; replace HOq204 := R_same HOq204 rfl hy_1; have HLN334 : Aside0 (t201.length = t330.length) := ⟨(Kd.R_reads' hy_2).1⟩; replace HOq205 := R_same HOq205 rfl hy_2; (try clear hk hb_); (try clear hy_0); (try clear hy_1); (try clear hy_2); have hc335 : w331.cell? ⟨g246, 0, none⟩ = some (.int .i64 t232) := (blk_cell HKg246.out 0).trans rfl; have hc336 : w331.cell? ⟨g246, 1, none⟩ = some (.slice Aq238 t233.length cq238) := (blk_cell HKg246.out 1).trans rfl; have hc337 : w331.cell? ⟨g246, 2, none⟩ = some (.slice Aq239 t234.length cq239) := (blk_cell HKg246.out 2).trans rfl; have hc338 : w331.cell? ⟨g246, 3, none⟩ = some (.slice Aq240 t235.length cq240) := (blk_cell HKg246.out 3).trans rfl; have hc339 : w331.cell? ⟨g138, 0, none⟩ = some (.int .i64 t35) := (blk_cell HKg138.out 0).trans rfl; have hc340 : w331.cell? ⟨g138, 1, none⟩ = some (.slice Aq148 t36.length cq148) := (blk_cell HKg138.out 1).trans rfl; have hc341 : w331.cell? ⟨g138, 2, none⟩ = some (.slice Aq149 t37.length cq149) := (blk_cell HKg138.out 2).trans rfl; have hc342 : w331.cell? ⟨g138, 3, none⟩ = some (.slice Aq150 t38.length cq150) := (blk_cell HKg138.out 3).trans rfl) | (go_at_call 24; (with_reducible refine (laws_eqAllowed.calls k t232 _ _ t233 _ _ t234 _ _ t235 t35 _ _ t36 _ _ t37 _ _ t38 true _ ?side1 ?side2 ?side3 ?side4 ?side5 ?side6 ?side7 ?side8 ?side9 ?side10 ?side11 ?side12 E344.out).mono ?_); (case side1 => exact (Kd.R_reads' HOq238.out).2.2); (case side2 => exact (Kd.R_reads' HOq238.out).2.1); (case side3 => exact (Kd.R_reads' HOq239.out).2.2); (case side4 => exact (Kd.R_reads' HOq239.out).2.1); (case side5 => exact (Kd.R_reads' HOq240.out).2.2); (case side6 => exact (Kd.R_reads' HOq240.out).2.1); (case side7 => exact (Kd.R_reads' HOq148.out).2.2); (case side8 => exact (Kd.R_reads' HOq148.out).2.1); (case side9 => exact (Kd.R_reads' HOq149.out).2.2); (case side10 => exact (Kd.R_reads' HOq149.out).2.1); (case side11 => exact (Kd.R_reads' HOq150.out).2.2); (case side12 => exact (Kd.R_reads' HOq150.out).2.1); rintro e w346 ⟨rfl, hb⟩; (try clear hc335 hc336 hc337 hc338 hc339 hc340 hc341 hc342); replace HOq148 := R_b HOq148 hb; replace HOq149 := R_b HOq149 hb; replace HOq150 := R_b HOq150 hb; replace HOq173 := R_b HOq173 hb; replace HOq174 := R_b HOq174 hb; replace HOq175 := R_b HOq175 hb; replace HOq203 := R_b HOq203 hb; replace HOq204 := R_b HOq204 hb; replace HOq205 := R_b HOq205 hb; replace HOq238 := R_b HOq238 hb; replace HOq239 := R_b HOq239 hb; replace HOq240 := R_b HOq240 hb; replace HOq278 := R_b HOq278 hb; replace HOq279 := R_b HOq279 hb; replace HOq280 := R_b HOq280 hb; replace HOq297 := R_b HOq297 hb; replace HOq298 := R_b HOq298 hb; replace HOq299 := R_b HOq299 hb; replace HKg1 := B_b HKg1 hb; replace HKg4 := B_b HKg4 hb; replace HKg138 := B_b HKg138 hb; replace HKg181 := B_b HKg181 hb; replace HKg211 := B_b HKg211 hb; replace HKg246 := B_b HKg246 hb; replace HS := Z_b HS hb; replace HB := H_b HB hb; clear hb; have hc348 : w346.cell? ⟨g246, 0, none⟩ = some (.int .i64 t232) := (blk_cell HKg246.out 0).trans rfl; have hc349 : w346.cell? ⟨g246, 1, none⟩ = some (.slice Aq238 t233.length cq238) := (blk_cell HKg246.out 1).trans rfl; have hc350 : w346.cell? ⟨g246, 2, none⟩ = some (.slice Aq239 t234.length cq239) := (blk_cell HKg246.out 2).trans rfl; have hc351 : w346.cell? ⟨g246, 3, none⟩ = some (.slice Aq240 t235.length cq240) := (blk_cell HKg246.out 3).trans rfl) | ((with_reducible refine gate_callee (f := 41) rfl ?_); refine goesL_ (some 85) rfl rfl Try.func41 sqk rfl #[.agg #[.int .i64 t232, .slice Aq238 t233.length cq238, .slice Aq239 t234.length cq239, .slice Aq240 t235.length cq240], .int .i64 1] rfl sqm ?_; (with_reducible refine (laws_markAllowed.calls k t232 (fun x => Lq238 ≤ x ∧ x < Uq238) (.slice Aq238 t233.length cq238) t233 (fun x => Lq239 ≤ x ∧ x < Uq239) (.slice Aq239 t234.length cq239) t234 (fun x => Lq240 ≤ x ∧ x < Uq240) (.slice Aq240 t235.length cq240) t235 1 t354 t355 t356 t357 w _ ?side1 ?side2 ?side3 ?side4 ?side5 ?side6 ?side7 ?side8 ?side9 ?side10 E353.out).mono ?_); (case side1 => exact HB.out); (case side2 => exact HOq238.out); (case side3 => (intro x h1 h2; have h3_ : Lq238 ≤ x ∧ x < Uq238 := h1; have h4_ : Lq239 ≤ x ∧ x < Uq239 := h2; have h5_ := HAP243.out; omega)); (case side4 => (intro x h1 h2; have h3_ : Lq238 ≤ x ∧ x < Uq238 := h1; have h4_ : Lq240 ≤ x ∧ x < Uq240 := h2; have h5_ := HAP243.out; omega)); (case side5 => exact HOq239.out); (case side6 => (intro x h1 h2; have h3_ : Lq239 ≤ x ∧ x < Uq239 := h1; have h4_ : Lq238 ≤ x ∧ x < Uq238 := h2; have h5_ := HAP243.out; omega)); (case side7 => (intro x h1 h2; have h3_ : Lq239 ≤ x ∧ x < Uq239 := h1; have h4_ : Lq240 ≤ x ∧ x < Uq240 := h2; have h5_ := HAP243.out; omega)); (case side8 => exact HOq240.out); (case side9 => (intro x h1 h2; have h3_ : Lq240 ≤ x ∧ x < Uq240 := h1; have h4_ : Lq238 ≤ x ∧ x < Uq238 := h2; have h5_ := HAP243.out; omega)); (case side10 => (intro x h1 h2; have h3_ : Lq240 ≤ x ∧ x < Uq240 := h1; have h4_ : Lq239 ≤ x ∧ x < Uq239 := h2; have h5_ := HAP243.out; omega)); rintro e w358 ⟨rfl, hy_0, hy_1, hy_2, hb_, hk⟩; refine ⟨_, rfl, ?_⟩; (try clear hc348 hc349 hc350 hc351); replace HOq148 := R_k HOq148 hk (fun x h1 h2 => (by have := HZ3.out; have := HZ6.out; have := HZ151.out; have := HZ151m.out; have := HZ176.out; have := HZ183.out; have := HZ206.out; have := HZ213.out; have := HZ241.out; have := HZ248.out; have := HZ281.out; have := HZ300.out; have h3_ : L139 ≤ x ∧ x < U140 := h1; have h4_ : (Lq238 ≤ x ∧ x < Uq238) ∨ (Lq239 ≤ x ∧ x < Uq239) ∨ (Lq240 ≤ x ∧ x < Uq240) := h2; omega)); replace HOq149 := R_k HOq149 hk (fun x h1 h2 => (by have := HZ3.out; have := HZ6.out; have := HZ151.out; have := HZ151m.out; have := HZ176.out; have := HZ183.out; have := HZ206.out; have := HZ213.out; have := HZ241.out; have := HZ248.out; have := HZ281.out; have := HZ300.out; have h3_ : L141 ≤ x ∧ x < U142 := h1; have h4_ : (Lq238 ≤ x ∧ x < Uq238) ∨ (Lq239 ≤ x ∧ x < Uq239) ∨ (Lq240 ≤ x ∧ x < Uq240) := h2; omega)); replace HOq150 := R_k HOq150 hk (fun x h1 h2 => (by have := HZ3.out; have := HZ6.out; have := HZ151.out; have := HZ151m.out; have := HZ176.out; have := HZ183.out; have := HZ206.out; have := HZ213.out; have := HZ241.out; have := HZ248.out; have := HZ281.out; have := HZ300.out; have h3_ : L143 ≤ x ∧ x < U144 := h1; have h4_ : (Lq238 ≤ x ∧ x < Uq238) ∨ (Lq239 ≤ x ∧ x < Uq239) ∨ (Lq240 ≤ x ∧ x < Uq240) := h2; omega)); replace HOq173 := R_k HOq173 hk (fun x h1 h2 => (by have := HZ3.out; have := HZ6.out; have := HZ151.out; have := HZ151m.out; have := HZ176.out; have := HZ183.out; have := HZ206.out; have := HZ213.out; have := HZ241.out; have := HZ248.out; have := HZ281.out; have := HZ300.out; have h3_ : Lq173 ≤ x ∧ x < Uq173 := h1; have h4_ : (Lq238 ≤ x ∧ x < Uq238) ∨ (Lq239 ≤ x ∧ x < Uq239) ∨ (Lq240 ≤ x ∧ x < Uq240) := h2; omega)); replace HOq174 := R_k HOq174 hk (fun x h1 h2 => (by have := HZ3.out; have := HZ6.out; have := HZ151.out; have := HZ151m.out; have := HZ176.out; have := HZ183.out; have := HZ206.out; have := HZ213.out; have := HZ241.out; have := HZ248.out; have := HZ281.out; have := HZ300.out; have h3_ : Lq174 ≤ x ∧ x < Uq174 := h1; have h4_ : (Lq238 ≤ x ∧ x < Uq238) ∨ (Lq239 ≤ x ∧ x < Uq239) ∨ (Lq240 ≤ x ∧ x < Uq240) := h2; omega)); replace HOq175 := R_k HOq175 hk (fun x h1 h2 => (by have := HZ3.out; have := HZ6.out; have := HZ151.out; have := HZ151m.out; have := HZ176.out; have := HZ183.out; have := HZ206.out; have := HZ213.out; have := HZ241.out; have := HZ248.out; have := HZ281.out; have := HZ300.out; have h3_ : Lq175 ≤ x ∧ x < Uq175 := h1; have h4_ : (Lq238 ≤ x ∧ x < Uq238) ∨ (Lq239 ≤ x ∧ x < Uq239) ∨ (Lq240 ≤ x ∧ x < Uq240) := h2; omega)); replace HOq203 := R_k HOq203 hk (fun x h1 h2 => (by have := HZ3.out; have := HZ6.out; have := HZ151.out; have := HZ151m.out; have := HZ176.out; have := HZ183.out; have := HZ206.out; have := HZ213.out; have := HZ241.out; have := HZ248.out; have := HZ281.out; have := HZ300.out; have h3_ : Lq203 ≤ x ∧ x < Uq203 := h1; have h4_ : (Lq238 ≤ x ∧ x < Uq238) ∨ (Lq239 ≤ x ∧ x < Uq239) ∨ (Lq240 ≤ x ∧ x < Uq240) := h2; omega)); replace HOq204 := R_k HOq204 hk (fun x h1 h2 => (by have := HZ3.out; have := HZ6.out; have := HZ151.out; have := HZ151m.out; have := HZ176.out; have := HZ183.out; have := HZ206.out; have := HZ213.out; have := HZ241.out; have := HZ248.out; have := HZ281.out; have := HZ300.out; have h3_ : Lq204 ≤ x ∧ x < Uq204 := h1; have h4_ : (Lq238 ≤ x ∧ x < Uq238) ∨ (Lq239 ≤ x ∧ x < Uq239) ∨ (Lq240 ≤ x ∧ x < Uq240) := h2; omega)); replace HOq205 := R_k HOq205 hk (fun x h1 h2 => (by have := HZ3.out; have := HZ6.out; have := HZ151.out; have := HZ151m.out; have := HZ176.out; have := HZ183.out; have := HZ206.out; have := HZ213.out; have := HZ241.out; have := HZ248.out; have := HZ281.out; have := HZ300.out; have h3_ : Lq205 ≤ x ∧ x < Uq205 := h1; have h4_ : (Lq238 ≤ x ∧ x < Uq238) ∨ (Lq239 ≤ x ∧ x < Uq239) ∨ (Lq240 ≤ x ∧ x < Uq240) := h2; omega)); replace HOq278 := R_k HOq278 hk (fun x h1 h2 => (by have := HZ3.out; have := HZ6.out; have := HZ151.out; have := HZ151m.out; have := HZ176.out; have := HZ183.out; have := HZ206.out; have := HZ213.out; have := HZ241.out; have := HZ248.out; have := HZ281.out; have := HZ300.out; have h3_ : Lq278 ≤ x ∧ x < Uq278 := h1; have h4_ : (Lq238 ≤ x ∧ x < Uq238) ∨ (Lq239 ≤ x ∧ x < Uq239) ∨ (Lq240 ≤ x ∧ x < Uq240) := h2; omega)); replace HOq279 := R_k HOq279 hk (fun x h1 h2 => (by have := HZ3.out; have := HZ6.out; have := HZ151.out; have := HZ151m.out; have := HZ176.out; have := HZ183.out; have := HZ206.out; have := HZ213.out; have := HZ241.out; have := HZ248.out; have := HZ281.out; have := HZ300.out; have h3_ : Lq279 ≤ x ∧ x < Uq279 := h1; have h4_ : (Lq238 ≤ x ∧ x < Uq238) ∨ (Lq239 ≤ x ∧ x < Uq239) ∨ (Lq240 ≤ x ∧ x < Uq240) := h2; omega)); replace HOq280 := R_k HOq280 hk (fun x h1 h2 => (by have := HZ3.out; have := HZ6.out; have := HZ151.out; have := HZ151m.out; have := HZ176.out; have := HZ183.out; have := HZ206.out; have := HZ213.out; have := HZ241.out; have := HZ248.out; have := HZ281.out; have := HZ300.out; have h3_ : Lq280 ≤ x ∧ x < Uq280 := h1; have h4_ : (Lq238 ≤ x ∧ x < Uq238) ∨ (Lq239 ≤ x ∧ x < Uq239) ∨ (Lq240 ≤ x ∧ x < Uq240) := h2; omega)); replace HOq297 := R_k HOq297 hk (fun x h1 h2 => (by have := HZ3.out; have := HZ6.out; have := HZ151.out; have := HZ151m.out; have := HZ176.out; have := HZ183.out; have := HZ206.out; have := HZ213.out; have := HZ241.out; have := HZ248.out; have := HZ281.out; have := HZ300.out; have h3_ : Lq297 ≤ x ∧ x < Uq297 := h1; have h4_ : (Lq238 ≤ x ∧ x < Uq238) ∨ (Lq239 ≤ x ∧ x < Uq239) ∨ (Lq240 ≤ x ∧ x < Uq240) := h2; omega)); replace HOq298 := R_k HOq298 hk (fun x h1 h2 => (by have := HZ3.out; have := HZ6.out; have := HZ151.out; have := HZ151m.out; have := HZ176.out; have := HZ183.out; have := HZ206.out; have := HZ213.out; have := HZ241.out; have := HZ248.out; have := HZ281.out; have := HZ300.out; have h3_ : Lq298 ≤ x ∧ x < Uq298 := h1; have h4_ : (Lq238 ≤ x ∧ x < Uq238) ∨ (Lq239 ≤ x ∧ x < Uq239) ∨ (Lq240 ≤ x ∧ x < Uq240) := h2; omega)); replace HOq299 := R_k HOq299 hk (fun x h1 h2 => (by have := HZ3.out; have := HZ6.out; have := HZ151.out; have := HZ151m.out; have := HZ176.out; have := HZ183.out; have := HZ206.out; have := HZ213.out; have := HZ241.out; have := HZ248.out; have := HZ281.out; have := HZ300.out; have h3_ : Lq299 ≤ x ∧ x < Uq299 := h1; have h4_ : (Lq238 ≤ x ∧ x < Uq238) ∨ (Lq239 ≤ x ∧ x < Uq239) ∨ (Lq240 ≤ x ∧ x < Uq240) := h2; omega)); replace HKg1 := B_k HKg1 hk (fun h2 => (by have := HZ3.out; have := HZ6.out; have := HZ151.out; have := HZ151m.out; have := HZ176.out; have := HZ183.out; have := HZ206.out; have := HZ213.out; have := HZ241.out; have := HZ248.out; have := HZ281.out; have := HZ300.out; have h4_ : (Lq238 ≤ g1 ∧ g1 < Uq238) ∨ (Lq239 ≤ g1 ∧ g1 < Uq239) ∨ (Lq240 ≤ g1 ∧ g1 < Uq240) := h2; omega)); replace HKg4 := B_k HKg4 hk (fun h2 => (by have := HZ3.out; have := HZ6.out; have := HZ151.out; have := HZ151m.out; have := HZ176.out; have := HZ183.out; have := HZ206.out; have := HZ213.out; have := HZ241.out; have := HZ248.out; have := HZ281.out; have := HZ300.out; have h4_ : (Lq238 ≤ g4 ∧ g4 < Uq238) ∨ (Lq239 ≤ g4 ∧ g4 < Uq239) ∨ (Lq240 ≤ g4 ∧ g4 < Uq240) := h2; omega)); replace HKg138 := B_k HKg138 hk (fun h2 => (by have := HZ3.out; have := HZ6.out; have := HZ151.out; have := HZ151m.out; have := HZ176.out; have := HZ183.out; have := HZ206.out; have := HZ213.out; have := HZ241.out; have := HZ248.out; have := HZ281.out; have := HZ300.out; have h4_ : (Lq238 ≤ g138 ∧ g138 < Uq238) ∨ (Lq239 ≤ g138 ∧ g138 < Uq239) ∨ (Lq240 ≤ g138 ∧ g138 < Uq240) := h2; omega)); replace HKg181 := B_k HKg181 hk (fun h2 => (by have := HZ3.out; have := HZ6.out; have := HZ151.out; have := HZ151m.out; have := HZ176.out; have := HZ183.out; have := HZ206.out; have := HZ213.out; have := HZ241.out; have := HZ248.out; have := HZ281.out; have := HZ300.out; have h4_ : (Lq238 ≤ g181 ∧ g181 < Uq238) ∨ (Lq239 ≤ g181 ∧ g181 < Uq239) ∨ (Lq240 ≤ g181 ∧ g181 < Uq240) := h2; omega)); replace HKg211 := B_k HKg211 hk (fun h2 => (by have := HZ3.out; have := HZ6.out; have := HZ151.out; have := HZ151m.out; have := HZ176.out; have := HZ183.out; have := HZ206.out; have := HZ213.out; have := HZ241.out; have := HZ248.out; have := HZ281.out; have := HZ300.out; have h4_ : (Lq238 ≤ g211 ∧ g211 < Uq238) ∨ (Lq239 ≤ g211 ∧ g211 < Uq239) ∨ (Lq240 ≤ g211 ∧ g211 < Uq240) := h2; omega)); replace HKg246 := B_k HKg246 hk (fun h2 => (by have := HZ3.out; have := HZ6.out; have := HZ151.out; have := HZ151m.out; have := HZ176.out; have := HZ183.out; have := HZ206.out; have := HZ213.out; have := HZ241.out; have := HZ248.out; have := HZ281.out; have := HZ300.out; have h4_ : (Lq238 ≤ g246 ∧ g246 < Uq238) ∨ (Lq239 ≤ g246 ∧ g246 < Uq239) ∨ (Lq240 ≤ g246 ∧ g246 < Uq240) := h2; omega)); replace HS := Z_k HS hk; replace HB := Aside0.mk hb_; have HLN359 : Aside0 (t233.length = t355.length) := ⟨(Kd.R_reads' hy_0).1⟩; replace HOq238 := R_same HOq238 rfl hy_0; have HLN360 : Aside0 (t234.length = t356.length) := ⟨(Kd.R_reads' hy_1).1⟩; replace HOq239 := R_same HOq239 rfl hy_1; have HLN361 : Aside0 (t235.length = t357.length) := ⟨(Kd.R_reads' hy_2).1⟩; replace HOq240 := R_same HOq240 rfl hy_2; (try clear hk hb_); (try clear hy_0); (try clear hy_1); (try clear hy_2); have hc362 : w358.cell? ⟨g246, 0, none⟩ = some (.int .i64 t232) := (blk_cell HKg246.out 0).trans rfl; have hc363 : w358.cell? ⟨g246, 1, none⟩ = some (.slice Aq238 t233.length cq238) := (blk_cell HKg246.out 1).trans rfl; have hc364 : w358.cell? ⟨g246, 2, none⟩ = some (.slice Aq239 t234.length cq239) := (blk_cell HKg246.out 2).trans rfl; have hc365 : w358.cell? ⟨g246, 3, none⟩ = some (.slice Aq240 t235.length cq240) := (blk_cell HKg246.out 3).trans rfl) | ((with_reducible refine gate_callee (f := 42) rfl ?_); refine goesL_ (some 88) rfl rfl Try.func42 sqk rfl #[.agg #[.int .i64 t232, .slice Aq238 t233.length cq238, .slice Aq239 t234.length cq239, .slice Aq240 t235.length cq240], .int .i64 1] rfl sqm ?_; rw [HLN359.out, HLN360.out, HLN361.out]; (with_reducible refine (laws_heldAllowed.calls k t232 _ _ t355 _ _ t356 _ _ t357 1 t354 _ ?side1 ?side2 ?side3 ?side4 ?side5 ?side6 E366.out).mono ?_); (case side1 => exact (Kd.R_reads' HOq238.out).2.2); (case side2 => (have h1_ := (Kd.R_reads' HOq238.out).2.1; have h2_ := HLN359.out; omega)); (case side3 => exact (Kd.R_reads' HOq239.out).2.2); (case side4 => (have h1_ := (Kd.R_reads' HOq239.out).2.1; have h2_ := HLN360.out; omega)); (case side5 => exact (Kd.R_reads' HOq240.out).2.2); (case side6 => (have h1_ := (Kd.R_reads' HOq240.out).2.1; have h2_ := HLN361.out; omega)); rintro e w368 ⟨rfl, hb⟩; refine ⟨_, rfl, ?_⟩; (try rw [← HLN359.out, ← HLN360.out, ← HLN361.out]); (try clear hc362 hc363 hc364 hc365); replace HOq148 := R_b HOq148 hb; replace HOq149 := R_b HOq149 hb; replace HOq150 := R_b HOq150 hb; replace HOq173 := R_b HOq173 hb; replace HOq174 := R_b HOq174 hb; replace HOq175 := R_b HOq175 hb; replace HOq203 := R_b HOq203 hb; replace HOq204 := R_b HOq204 hb; replace HOq205 := R_b HOq205 hb; replace HOq238 := R_b HOq238 hb; replace HOq239 := R_b HOq239 hb; replace HOq240 := R_b HOq240 hb; replace HOq278 := R_b HOq278 hb; replace HOq279 := R_b HOq279 hb; replace HOq280 := R_b HOq280 hb; replace HOq297 := R_b HOq297 hb; replace HOq298 := R_b HOq298 hb; replace HOq299 := R_b HOq299 hb; replace HKg1 := B_b HKg1 hb; replace HKg4 := B_b HKg4 hb; replace HKg138 := B_b HKg138 hb; replace HKg181 := B_b HKg181 hb; replace HKg211 := B_b HKg211 hb; replace HKg246 := B_b HKg246 hb; replace HS := Z_b HS hb; replace HB := H_b HB hb; clear hb))
 have hb := below_drew (Below.refl w368.heap.size w368)
 replace HOq148 := R_b HOq148 hb
 replace HOq149 := R_b HOq149 hb
 replace HOq150 := R_b HOq150 hb
 replace HOq173 := R_b HOq173 hb
 replace HOq174 := R_b HOq174 hb
 replace HOq175 := R_b HOq175 hb
 replace HOq203 := R_b HOq203 hb
 replace HOq204 := R_b HOq204 hb
 replace HOq205 := R_b HOq205 hb
 replace HOq238 := R_b HOq238 hb
 replace HOq239 := R_b HOq239 hb
 replace HOq240 := R_b HOq240 hb
 replace HOq278 := R_b HOq278 hb
 replace HOq279 := R_b HOq279 hb
 replace HOq280 := R_b HOq280 hb
 replace HOq297 := R_b HOq297 hb
 replace HOq298 := R_b HOq298 hb
 replace HOq299 := R_b HOq299 hb
 replace HKg1 := B_b HKg1 hb
 replace HKg4 := B_b HKg4 hb
 replace HKg138 := B_b HKg138 hb
 replace HKg181 := B_b HKg181 hb
 replace HKg211 := B_b HKg211 hb
 replace HKg246 := B_b HKg246 hb
 replace HS := Z_b HS hb
 replace HB := H_b HB hb
 clear hb
 refine start_ (n := 11) (S := fun w' => w'.cell? ⟨g1, 0, none⟩ = some (.int .i64 a0_0) ∧ w'.cell? ⟨g1, 1, none⟩ = some (.slice A0_1 l0_1.length c0_1) ∧ w'.cell? ⟨g1, 2, none⟩ = some (.slice A0_2 l0_2.length c0_2) ∧ w'.cell? ⟨g1, 3, none⟩ = some (.slice A0_3 l0_3.length c0_3) ∧ w'.cell? ⟨g4, 0, none⟩ = some (.int .i64 a1_0) ∧ w'.cell? ⟨g4, 1, none⟩ = some (.slice A1_1 l1_1.length c1_1) ∧ w'.cell? ⟨g4, 2, none⟩ = some (.slice A1_2 l1_2.length c1_2) ∧ w'.cell? ⟨g4, 3, none⟩ = some (.slice A1_3 l1_3.length c1_3)) (ds := []) #[false, false, false, false, false, false, false, false, false, false, false] sqk rfl rfl ⟨(blk_cell HKg1.out 0).trans rfl, (blk_cell HKg1.out 1).trans rfl, (blk_cell HKg1.out 2).trans rfl, (blk_cell HKg1.out 3).trans rfl, (blk_cell HKg4.out 0).trans rfl, (blk_cell HKg4.out 1).trans rfl, (blk_cell HKg4.out 2).trans rfl, (blk_cell HKg4.out 3).trans rfl⟩ (fun hHeld => ?_)
 generalize w368.drew = w371 at HOq148 HOq149 HOq150 HOq173 HOq174 HOq175 HOq203 HOq204 HOq205 HOq238 HOq239 HOq240 HOq278 HOq279 HOq280 HOq297 HOq298 HOq299 HKg1 HKg4 HKg138 HKg181 HKg211 HKg246 HB HS hHeld ⊢
 refine ta 0 95 ?_; refine ta 2 97 ?_
 refine join_ (σ := Value × Value × Value × Value × Value × Nat × Nat × Nat × Nat × Nat × Nat × Nat × Nat × Nat) 2 #[true, true, true, true, true, true, true, true, true, false, false] (fun s_ => [(96, s_.1), (98, s_.2.1), (99, .tuple #[.agg #[.int .i64 t383, (s_.2.2.1), (s_.2.2.2.1), (s_.2.2.2.2.1)], .bool t39]), (94, .tuple #[.agg #[.int .i64 t383, (s_.2.2.1), (s_.2.2.2.1), (s_.2.2.2.2.1)], .bool t39]), (100, .agg #[.int .i64 t383, (s_.2.2.1), (s_.2.2.2.1), (s_.2.2.2.2.1)]), (101, .bool t39), (15, .pointer (some ⟨s_.2.2.2.2.2.1, 0, none⟩))]) (fun s_ w' => (w'.cell? ⟨g1, 0, none⟩ = some (.int .i64 a0_0) ∧ w'.cell? ⟨g1, 1, none⟩ = some (.slice A0_1 l0_1.length c0_1) ∧ w'.cell? ⟨g1, 2, none⟩ = some (.slice A0_2 l0_2.length c0_2) ∧ w'.cell? ⟨g1, 3, none⟩ = some (.slice A0_3 l0_3.length c0_3) ∧ w'.cell? ⟨g4, 0, none⟩ = some (.int .i64 a1_0) ∧ w'.cell? ⟨g4, 1, none⟩ = some (.slice A1_1 l1_1.length c1_1) ∧ w'.cell? ⟨g4, 2, none⟩ = some (.slice A1_2 l1_2.length c1_2) ∧ w'.cell? ⟨g4, 3, none⟩ = some (.slice A1_3 l1_3.length c1_3)) ∧ (Kd.R (Kd.int .i64) 3 w' w.heap.size (fun x => (s_.2.2.2.2.2.2.1) ≤ x ∧ x < (s_.2.2.2.2.2.2.2.1)) (s_.2.2.1) t384) ∧ (Kd.R (Kd.int .i64) 3 w' w.heap.size (fun x => (s_.2.2.2.2.2.2.2.2.1) ≤ x ∧ x < (s_.2.2.2.2.2.2.2.2.2.1)) (s_.2.2.2.1) t385) ∧ (Kd.R (Kd.int .i64) 3 w' w.heap.size (fun x => (s_.2.2.2.2.2.2.2.2.2.2.1) ≤ x ∧ x < (s_.2.2.2.2.2.2.2.2.2.2.2.1)) (s_.2.2.2.2.1) t386) ∧ (Kd.R (Kd.int .i64) 3 w' w.heap.size (fun x => L139 ≤ x ∧ x < U140) (.slice Aq148 t36.length cq148) t36) ∧ (Kd.R (Kd.int .i64) 3 w' w.heap.size (fun x => L141 ≤ x ∧ x < U142) (.slice Aq149 t37.length cq149) t37) ∧ (Kd.R (Kd.int .i64) 3 w' w.heap.size (fun x => L143 ≤ x ∧ x < U144) (.slice Aq150 t38.length cq150) t38) ∧ (Kd.R (Kd.int .i64) 3 w' w.heap.size (fun x => Lq173 ≤ x ∧ x < Uq173) (.slice Aq173 t169.length cq173) t315) ∧ (Kd.R (Kd.int .i64) 3 w' w.heap.size (fun x => Lq174 ≤ x ∧ x < Uq174) (.slice Aq174 t170.length cq174) t316) ∧ (Kd.R (Kd.int .i64) 3 w' w.heap.size (fun x => Lq175 ≤ x ∧ x < Uq175) (.slice Aq175 t171.length cq175) t317) ∧ (Kd.R (Kd.int .i64) 3 w' w.heap.size (fun x => Lq203 ≤ x ∧ x < Uq203) (.slice Aq203 t199.length cq203) t328) ∧ (Kd.R (Kd.int .i64) 3 w' w.heap.size (fun x => Lq204 ≤ x ∧ x < Uq204) (.slice Aq204 t200.length cq204) t329) ∧ (Kd.R (Kd.int .i64) 3 w' w.heap.size (fun x => Lq205 ≤ x ∧ x < Uq205) (.slice Aq205 t201.length cq205) t330) ∧ (Kd.R (Kd.int .i64) 3 w' w.heap.size (fun x => Lq238 ≤ x ∧ x < Uq238) (.slice Aq238 t233.length cq238) t355) ∧ (Kd.R (Kd.int .i64) 3 w' w.heap.size (fun x => Lq239 ≤ x ∧ x < Uq239) (.slice Aq239 t234.length cq239) t356) ∧ (Kd.R (Kd.int .i64) 3 w' w.heap.size (fun x => Lq240 ≤ x ∧ x < Uq240) (.slice Aq240 t235.length cq240) t357) ∧ (Kd.R (Kd.int .i64) 3 w' w.heap.size (fun x => Lq278 ≤ x ∧ x < Uq278) (.slice Aq278 t274.length cq278) t274) ∧ (Kd.R (Kd.int .i64) 3 w' w.heap.size (fun x => Lq279 ≤ x ∧ x < Uq279) (.slice Aq279 t275.length cq279) t275) ∧ (Kd.R (Kd.int .i64) 3 w' w.heap.size (fun x => Lq280 ≤ x ∧ x < Uq280) (.slice Aq280 t276.length cq280) t276) ∧ (Kd.R (Kd.int .i64) 3 w' w.heap.size (fun x => Lq297 ≤ x ∧ x < Uq297) (.slice Aq297 t293.length cq297) t293) ∧ (Kd.R (Kd.int .i64) 3 w' w.heap.size (fun x => Lq298 ≤ x ∧ x < Uq298) (.slice Aq298 t294.length cq298) t294) ∧ (Kd.R (Kd.int .i64) 3 w' w.heap.size (fun x => Lq299 ≤ x ∧ x < Uq299) (.slice Aq299 t295.length cq299) t295) ∧ (w'.heap[g1]? = some (.cells #[.int .i64 a0_0, .slice A0_1 l0_1.length c0_1, .slice A0_2 l0_2.length c0_2, .slice A0_3 l0_3.length c0_3] 30 (0, 0))) ∧ (w'.heap[g4]? = some (.cells #[.int .i64 a1_0, .slice A1_1 l1_1.length c1_1, .slice A1_2 l1_2.length c1_2, .slice A1_3 l1_3.length c1_3] 30 (0, 0))) ∧ (w'.heap[g138]? = some (.cells #[.int .i64 t35, .slice Aq148 t36.length cq148, .slice Aq149 t37.length cq149, .slice Aq150 t38.length cq150] 33 (0, 0))) ∧ (w'.heap[g181]? = some (.cells #[.int .i64 t168, .slice Aq173 t169.length cq173, .slice Aq174 t170.length cq174, .slice Aq175 t171.length cq175] 33 (0, 0))) ∧ (w'.heap[g211]? = some (.cells #[.int .i64 t198, .slice Aq203 t199.length cq203, .slice Aq204 t200.length cq204, .slice Aq205 t201.length cq205] 33 (0, 0))) ∧ (w'.heap[g246]? = some (.cells #[.int .i64 t232, .slice Aq238 t233.length cq238, .slice Aq239 t234.length cq239, .slice Aq240 t235.length cq240] 33 (0, 0))) ∧ (w'.heap[s_.2.2.2.2.2.1]? = some (.cells #[.int .i64 0, .slice none 0 0, .slice none 0 0, .slice none 0 0] 33 (0, 0))) ∧ ((UG304 ≤ (s_.2.2.2.2.2.2.2.2.2.2.2.2.1) ∧ (s_.2.2.2.2.2.2.2.2.2.2.2.2.1) ≤ (s_.2.2.2.2.2.2.1) ∧ (s_.2.2.2.2.2.2.1) ≤ (s_.2.2.2.2.2.2.2.1) ∧ (s_.2.2.2.2.2.2.2.1) ≤ (s_.2.2.2.2.2.2.2.2.2.2.2.2.2) ∧ (s_.2.2.2.2.2.2.2.2.2.2.2.2.1) ≤ (s_.2.2.2.2.2.2.2.2.1) ∧ (s_.2.2.2.2.2.2.2.2.1) ≤ (s_.2.2.2.2.2.2.2.2.2.1) ∧ (s_.2.2.2.2.2.2.2.2.2.1) ≤ (s_.2.2.2.2.2.2.2.2.2.2.2.2.2) ∧ (s_.2.2.2.2.2.2.2.2.2.2.2.2.1) ≤ (s_.2.2.2.2.2.2.2.2.2.2.1) ∧ (s_.2.2.2.2.2.2.2.2.2.2.1) ≤ (s_.2.2.2.2.2.2.2.2.2.2.2.1) ∧ (s_.2.2.2.2.2.2.2.2.2.2.2.1) ≤ (s_.2.2.2.2.2.2.2.2.2.2.2.2.2) ∧ UG304 ≤ s_.2.2.2.2.2.1 ∧ (s_.2.2.2.2.2.1 + 1 ≤ (s_.2.2.2.2.2.2.2.2.2.2.2.2.1) ∨ (s_.2.2.2.2.2.2.2.2.2.2.2.2.2) ≤ s_.2.2.2.2.2.1) ∧ w.heap.size ≤ s_.2.2.2.2.2.1 ∧ (s_.2.2.2.2.2.2.2.2.2.2.2.2.2) ≤ w'.heap.size ∧ s_.2.2.2.2.2.1 + 1 ≤ w'.heap.size)) ∧ ((((s_.2.2.2.2.2.2.2.1) ≤ (s_.2.2.2.2.2.2.2.2.1) ∨ (s_.2.2.2.2.2.2.2.2.2.1) ≤ (s_.2.2.2.2.2.2.1)) ∧ ((s_.2.2.2.2.2.2.2.1) ≤ (s_.2.2.2.2.2.2.2.2.2.2.1) ∨ (s_.2.2.2.2.2.2.2.2.2.2.2.1) ≤ (s_.2.2.2.2.2.2.1)) ∧ ((s_.2.2.2.2.2.2.2.2.2.1) ≤ (s_.2.2.2.2.2.2.2.2.2.2.1) ∨ (s_.2.2.2.2.2.2.2.2.2.2.2.1) ≤ (s_.2.2.2.2.2.2.2.2.1)))) ∧ (Below w.heap.size w w')) ?_ ?_
 rotate_left
 ·intro hCont
  refine two_ (i := 1) (j := 8) (Ni := some 96) (Nj := some 15) #[true, true, true, false, false, false, false, false, false, false, false] #[true, false, true, false, false, false, false, false, true, false, false] rfl rfl rfl rfl sqk (by decide) (by decide) (fun K hK => ?_) (fun K hK => ?_)
  ·skip
   refine goes_ Try.func22 sqk rfl #[.agg #[.int .i64 a0_0, .slice A0_1 l0_1.length c0_1, .slice A0_2 l0_2.length c0_2, .slice A0_3 l0_3.length c0_3]] (by rfl) rfl rfl sqm ?_
   with_reducible refine (laws_toAllowed.calls k a0_0 _ _ l0_1 _ _ l0_2 _ _ l0_3 t373 t374 t375 t376 _ ?side1 ?side2 ?side3 ?side4 ?side5 ?side6 E372.out).mono ?_
   (case side1 => exact Kd.C_below HR0_1.out HB.out)
   (case side2 => exact HC0_1.out)
   (case side3 => exact Kd.C_below HR0_2.out HB.out)
   (case side4 => exact HC0_2.out)
   (case side5 => exact Kd.C_below HR0_3.out HB.out)
   (case side6 => exact HC0_3.out)
   rintro e w388 ⟨v_0, v_1, v_2, rfl, ho0, ho1, ho2, hb⟩
   obtain ⟨Aq389, cq389, rfl⟩ := Kd.R_slice ho0
   obtain ⟨Aq390, cq390, rfl⟩ := Kd.R_slice ho1
   obtain ⟨Aq391, cq391, rfl⟩ := Kd.R_slice ho2
   refine ⟨_, rfl, ?_⟩
   obtain ⟨Lq389, Uq389, Lq390, Uq390, Lq391, Uq391, LG395, UG396, HZ392, HAP394, HZ393, HOq389, HOq390, HOq391⟩ := R_made3 ho0 ho1 ho2 rfl HS.out hb HB.out.size
   replace HOq148 := R_b HOq148 hb
   replace HOq149 := R_b HOq149 hb
   replace HOq150 := R_b HOq150 hb
   replace HOq173 := R_b HOq173 hb
   replace HOq174 := R_b HOq174 hb
   replace HOq175 := R_b HOq175 hb
   replace HOq203 := R_b HOq203 hb
   replace HOq204 := R_b HOq204 hb
   replace HOq205 := R_b HOq205 hb
   replace HOq238 := R_b HOq238 hb
   replace HOq239 := R_b HOq239 hb
   replace HOq240 := R_b HOq240 hb
   replace HOq278 := R_b HOq278 hb
   replace HOq279 := R_b HOq279 hb
   replace HOq280 := R_b HOq280 hb
   replace HOq297 := R_b HOq297 hb
   replace HOq298 := R_b HOq298 hb
   replace HOq299 := R_b HOq299 hb
   replace HKg1 := B_b HKg1 hb
   replace HKg4 := B_b HKg4 hb
   replace HKg138 := B_b HKg138 hb
   replace HKg181 := B_b HKg181 hb
   replace HKg211 := B_b HKg211 hb
   replace HKg246 := B_b HKg246 hb
   replace HS := Z_b HS hb
   replace HB := H_b HB hb
   replace HS := HZ393
   clear ho0 ho1 ho2; clear hb
   refine hK.out _ _ ⟨(blk_cell HKg1.out 0).trans rfl, (blk_cell HKg1.out 1).trans rfl, (blk_cell HKg1.out 2).trans rfl, (blk_cell HKg1.out 3).trans rfl, (blk_cell HKg4.out 0).trans rfl, (blk_cell HKg4.out 1).trans rfl, (blk_cell HKg4.out 2).trans rfl, (blk_cell HKg4.out 3).trans rfl⟩ (fun hHeld => ?_)
   clear hK K; refine no 96 ?_
   refine two_ (i := 3) (j := 8) (Ni := some 98) (Nj := some 15) #[true, true, true, true, false, false, false, false, false, false, false] #[true, true, true, false, false, false, false, false, true, false, false] rfl rfl rfl rfl sqk (by decide) (by decide) (fun K hK => ?_) (fun K hK => ?_)
   ·skip
    refine goes_ Try.func22 sqk rfl #[.agg #[.int .i64 a1_0, .slice A1_1 l1_1.length c1_1, .slice A1_2 l1_2.length c1_2, .slice A1_3 l1_3.length c1_3]] (by rfl) rfl rfl sqm ?_
    with_reducible refine (laws_toAllowed.calls k a1_0 _ _ l1_1 _ _ l1_2 _ _ l1_3 t378 t379 t380 t381 _ ?side1 ?side2 ?side3 ?side4 ?side5 ?side6 E377.out).mono ?_
    (case side1 => exact Kd.C_below HR1_1.out HB.out)
    (case side2 => exact HC1_1.out)
    (case side3 => exact Kd.C_below HR1_2.out HB.out)
    (case side4 => exact HC1_2.out)
    (case side5 => exact Kd.C_below HR1_3.out HB.out)
    (case side6 => exact HC1_3.out)
    rintro e w397 ⟨v_0, v_1, v_2, rfl, ho0, ho1, ho2, hb⟩
    obtain ⟨Aq398, cq398, rfl⟩ := Kd.R_slice ho0
    obtain ⟨Aq399, cq399, rfl⟩ := Kd.R_slice ho1
    obtain ⟨Aq400, cq400, rfl⟩ := Kd.R_slice ho2
    refine ⟨_, rfl, ?_⟩
    obtain ⟨Lq398, Uq398, Lq399, Uq399, Lq400, Uq400, LG404, UG405, HZ401, HAP403, HZ402, HOq398, HOq399, HOq400⟩ := R_made3 ho0 ho1 ho2 rfl HS.out hb HB.out.size
    replace HOq148 := R_b HOq148 hb
    replace HOq149 := R_b HOq149 hb
    replace HOq150 := R_b HOq150 hb
    replace HOq173 := R_b HOq173 hb
    replace HOq174 := R_b HOq174 hb
    replace HOq175 := R_b HOq175 hb
    replace HOq203 := R_b HOq203 hb
    replace HOq204 := R_b HOq204 hb
    replace HOq205 := R_b HOq205 hb
    replace HOq238 := R_b HOq238 hb
    replace HOq239 := R_b HOq239 hb
    replace HOq240 := R_b HOq240 hb
    replace HOq278 := R_b HOq278 hb
    replace HOq279 := R_b HOq279 hb
    replace HOq280 := R_b HOq280 hb
    replace HOq297 := R_b HOq297 hb
    replace HOq298 := R_b HOq298 hb
    replace HOq299 := R_b HOq299 hb
    replace HOq389 := R_b HOq389 hb
    replace HOq390 := R_b HOq390 hb
    replace HOq391 := R_b HOq391 hb
    replace HKg1 := B_b HKg1 hb
    replace HKg4 := B_b HKg4 hb
    replace HKg138 := B_b HKg138 hb
    replace HKg181 := B_b HKg181 hb
    replace HKg211 := B_b HKg211 hb
    replace HKg246 := B_b HKg246 hb
    replace HS := Z_b HS hb
    replace HB := H_b HB hb
    replace HS := HZ402
    clear ho0 ho1 ho2; clear hb
    refine hK.out _ _ ⟨(blk_cell HKg1.out 0).trans rfl, (blk_cell HKg1.out 1).trans rfl, (blk_cell HKg1.out 2).trans rfl, (blk_cell HKg1.out 3).trans rfl, (blk_cell HKg4.out 0).trans rfl, (blk_cell HKg4.out 1).trans rfl, (blk_cell HKg4.out 2).trans rfl, (blk_cell HKg4.out 3).trans rfl⟩ (fun hHeld => ?_)
    clear hK K; refine no 98 ?_
    refine two_ (i := 4) (j := 8) (Ni := some 99) (Nj := some 15) #[true, true, true, true, true, false, false, false, false, false, false] #[true, true, true, true, false, false, false, false, true, false, false] rfl rfl rfl rfl sqk (by decide) (by decide) (fun K hK => ?_) (fun K hK => ?_)
    ·skip
     refine goes_ Try.func40 sqk rfl #[.agg #[.int .i64 t373, .slice Aq389 t374.length cq389, .slice Aq390 t375.length cq390, .slice Aq391 t376.length cq391], .agg #[.int .i64 t378, .slice Aq398 t379.length cq398, .slice Aq399 t380.length cq399, .slice Aq400 t381.length cq400]] (by rfl) rfl rfl sqm ?_
     with_reducible refine (impl_ReplaceAllowed.calls k t373 _ _ t374 _ _ t375 _ _ t376 t378 _ _ t379 _ _ t380 _ _ t381 t383 t384 t385 t386 t39 _ ?side1 ?side2 ?side3 ?side4 ?side5 ?side6 ?side7 ?side8 ?side9 ?side10 ?side11 ?side12 E382.out).mono ?_
     (case side1 => exact (Kd.R_reads' HOq389.out).2.2)
     (case side2 => exact (Kd.R_reads' HOq389.out).2.1)
     (case side3 => exact (Kd.R_reads' HOq390.out).2.2)
     (case side4 => exact (Kd.R_reads' HOq390.out).2.1)
     (case side5 => exact (Kd.R_reads' HOq391.out).2.2)
     (case side6 => exact (Kd.R_reads' HOq391.out).2.1)
     (case side7 => exact (Kd.R_reads' HOq398.out).2.2)
     (case side8 => exact (Kd.R_reads' HOq398.out).2.1)
     (case side9 => exact (Kd.R_reads' HOq399.out).2.2)
     (case side10 => exact (Kd.R_reads' HOq399.out).2.1)
     (case side11 => exact (Kd.R_reads' HOq400.out).2.2)
     (case side12 => exact (Kd.R_reads' HOq400.out).2.1)
     rintro e w406 ⟨v_0, v_1, v_2, rfl, ho0, ho1, ho2, hb⟩
     obtain ⟨Aq407, cq407, rfl⟩ := Kd.R_slice ho0
     obtain ⟨Aq408, cq408, rfl⟩ := Kd.R_slice ho1
     obtain ⟨Aq409, cq409, rfl⟩ := Kd.R_slice ho2
     refine ⟨_, rfl, ?_⟩
     obtain ⟨Lq407, Uq407, Lq408, Uq408, Lq409, Uq409, LG413, UG414, HZ410, HAP412, HZ411, HOq407, HOq408, HOq409⟩ := R_made3 ho0 ho1 ho2 rfl HS.out hb HB.out.size
     replace HOq148 := R_b HOq148 hb
     replace HOq149 := R_b HOq149 hb
     replace HOq150 := R_b HOq150 hb
     replace HOq173 := R_b HOq173 hb
     replace HOq174 := R_b HOq174 hb
     replace HOq175 := R_b HOq175 hb
     replace HOq203 := R_b HOq203 hb
     replace HOq204 := R_b HOq204 hb
     replace HOq205 := R_b HOq205 hb
     replace HOq238 := R_b HOq238 hb
     replace HOq239 := R_b HOq239 hb
     replace HOq240 := R_b HOq240 hb
     replace HOq278 := R_b HOq278 hb
     replace HOq279 := R_b HOq279 hb
     replace HOq280 := R_b HOq280 hb
     replace HOq297 := R_b HOq297 hb
     replace HOq298 := R_b HOq298 hb
     replace HOq299 := R_b HOq299 hb
     replace HOq389 := R_b HOq389 hb
     replace HOq390 := R_b HOq390 hb
     replace HOq391 := R_b HOq391 hb
     replace HOq398 := R_b HOq398 hb
     replace HOq399 := R_b HOq399 hb
     replace HOq400 := R_b HOq400 hb
     replace HKg1 := B_b HKg1 hb
     replace HKg4 := B_b HKg4 hb
     replace HKg138 := B_b HKg138 hb
     replace HKg181 := B_b HKg181 hb
     replace HKg211 := B_b HKg211 hb
     replace HKg246 := B_b HKg246 hb
     replace HS := Z_b HS hb
     replace HB := H_b HB hb
     replace HS := HZ411
     clear ho0 ho1 ho2; clear hb
     refine hK.out _ _ ⟨(blk_cell HKg1.out 0).trans rfl, (blk_cell HKg1.out 1).trans rfl, (blk_cell HKg1.out 2).trans rfl, (blk_cell HKg1.out 3).trans rfl, (blk_cell HKg4.out 0).trans rfl, (blk_cell HKg4.out 1).trans rfl, (blk_cell HKg4.out 2).trans rfl, (blk_cell HKg4.out 3).trans rfl⟩ (fun hHeld => ?_)
     clear hK K; refine no 99 ?_; refine pu 5 94 ?_; refine pu 6 100 ?_; refine pu 7 101 ?_
     refine on 8 (some 15) (fun K hK => ?_)
     refine box_step ?hg (N := 15) ?hd (cs := #[.int .i64 0, .slice none 0 0, .slice none 0 0, .slice none 0 0]) (t := 33) ?hr ?_; (case hd => rfl); (case hg => rfl); (case hr => first | (go_simp; done) | (go_simp; rfl))
     intro g415 hg w416 hbox hb
     have HZ417 : Aside0 (UG414 ≤ g415 ∧ w.heap.size ≤ g415) := ⟨by rw [hg]; exact ⟨HS.out, HB.out.size⟩⟩
     replace HOq148 := R_b HOq148 hb
     replace HOq149 := R_b HOq149 hb
     replace HOq150 := R_b HOq150 hb
     replace HOq173 := R_b HOq173 hb
     replace HOq174 := R_b HOq174 hb
     replace HOq175 := R_b HOq175 hb
     replace HOq203 := R_b HOq203 hb
     replace HOq204 := R_b HOq204 hb
     replace HOq205 := R_b HOq205 hb
     replace HOq238 := R_b HOq238 hb
     replace HOq239 := R_b HOq239 hb
     replace HOq240 := R_b HOq240 hb
     replace HOq278 := R_b HOq278 hb
     replace HOq279 := R_b HOq279 hb
     replace HOq280 := R_b HOq280 hb
     replace HOq297 := R_b HOq297 hb
     replace HOq298 := R_b HOq298 hb
     replace HOq299 := R_b HOq299 hb
     replace HOq389 := R_b HOq389 hb
     replace HOq390 := R_b HOq390 hb
     replace HOq391 := R_b HOq391 hb
     replace HOq398 := R_b HOq398 hb
     replace HOq399 := R_b HOq399 hb
     replace HOq400 := R_b HOq400 hb
     replace HOq407 := R_b HOq407 hb
     replace HOq408 := R_b HOq408 hb
     replace HOq409 := R_b HOq409 hb
     replace HKg1 := B_b HKg1 hb
     replace HKg4 := B_b HKg4 hb
     replace HKg138 := B_b HKg138 hb
     replace HKg181 := B_b HKg181 hb
     replace HKg211 := B_b HKg211 hb
     replace HKg246 := B_b HKg246 hb
     replace HS := Z_b HS hb
     replace HB := H_b HB hb
     have HKg415 := Aside0.mk hbox
     replace HS : Aside0 (g415 + 1 ≤ w416.heap.size) := ⟨blk_lt hbox⟩
     clear hg hbox hb
     refine hK.out _ _ ⟨(blk_cell HKg1.out 0).trans rfl, (blk_cell HKg1.out 1).trans rfl, (blk_cell HKg1.out 2).trans rfl, (blk_cell HKg1.out 3).trans rfl, (blk_cell HKg4.out 0).trans rfl, (blk_cell HKg4.out 1).trans rfl, (blk_cell HKg4.out 2).trans rfl, (blk_cell HKg4.out 3).trans rfl⟩ (fun hHeld => ?_)
     clear hK K; refine no 15 ?_
     have hcj : (UG304 ≤ LG413 ∧ LG413 ≤ Lq407 ∧ Lq407 ≤ Uq407 ∧ Uq407 ≤ UG414 ∧ LG413 ≤ Lq408 ∧ Lq408 ≤ Uq408 ∧ Uq408 ≤ UG414 ∧ LG413 ≤ Lq409 ∧ Lq409 ≤ Uq409 ∧ Uq409 ≤ UG414 ∧ UG304 ≤ g415 ∧ (g415 + 1 ≤ LG413 ∨ UG414 ≤ g415) ∧ w.heap.size ≤ g415 ∧ UG414 ≤ w416.heap.size ∧ g415 + 1 ≤ w416.heap.size) := (by have := HZ3.out; have := HZ6.out; have := HZ151.out; have := HZ151m.out; have := HZ176.out; have := HZ183.out; have := HZ206.out; have := HZ213.out; have := HZ241.out; have := HZ248.out; have := HZ281.out; have := HZ300.out; have := HZ392.out; have := HZ401.out; have := HZ410.out; have := HZ417.out; have := HS.out; omega)
     exact norm_ z10_1 (hCont (.agg #[.int .i64 t373, .slice Aq389 t374.length cq389, .slice Aq390 t375.length cq390, .slice Aq391 t376.length cq391], .agg #[.int .i64 t378, .slice Aq398 t379.length cq398, .slice Aq399 t380.length cq399, .slice Aq400 t381.length cq400], .slice Aq407 t384.length cq407, .slice Aq408 t385.length cq408, .slice Aq409 t386.length cq409, g415, Lq407, Uq407, Lq408, Uq408, Lq409, Uq409, LG413, UG414) _ ⟨hHeld, HOq407.out, HOq408.out, HOq409.out, HOq148.out, HOq149.out, HOq150.out, HOq173.out, HOq174.out, HOq175.out, HOq203.out, HOq204.out, HOq205.out, HOq238.out, HOq239.out, HOq240.out, HOq278.out, HOq279.out, HOq280.out, HOq297.out, HOq298.out, HOq299.out, HKg1.out, HKg4.out, HKg138.out, HKg181.out, HKg211.out, HKg246.out, HKg415.out, hcj, HAP412.out, HB.out⟩)
    ·skip
     refine box_step ?hg (N := 15) ?hd (cs := #[.int .i64 0, .slice none 0 0, .slice none 0 0, .slice none 0 0]) (t := 33) ?hr ?_; (case hd => rfl); (case hg => rfl); (case hr => first | (go_simp; done) | (go_simp; rfl))
     intro g418 hg w419 hbox hb
     have HZ420 : Aside0 (UG405 ≤ g418 ∧ w.heap.size ≤ g418) := ⟨by rw [hg]; exact ⟨HS.out, HB.out.size⟩⟩
     replace HOq148 := R_b HOq148 hb
     replace HOq149 := R_b HOq149 hb
     replace HOq150 := R_b HOq150 hb
     replace HOq173 := R_b HOq173 hb
     replace HOq174 := R_b HOq174 hb
     replace HOq175 := R_b HOq175 hb
     replace HOq203 := R_b HOq203 hb
     replace HOq204 := R_b HOq204 hb
     replace HOq205 := R_b HOq205 hb
     replace HOq238 := R_b HOq238 hb
     replace HOq239 := R_b HOq239 hb
     replace HOq240 := R_b HOq240 hb
     replace HOq278 := R_b HOq278 hb
     replace HOq279 := R_b HOq279 hb
     replace HOq280 := R_b HOq280 hb
     replace HOq297 := R_b HOq297 hb
     replace HOq298 := R_b HOq298 hb
     replace HOq299 := R_b HOq299 hb
     replace HOq389 := R_b HOq389 hb
     replace HOq390 := R_b HOq390 hb
     replace HOq391 := R_b HOq391 hb
     replace HOq398 := R_b HOq398 hb
     replace HOq399 := R_b HOq399 hb
     replace HOq400 := R_b HOq400 hb
     replace HKg1 := B_b HKg1 hb
     replace HKg4 := B_b HKg4 hb
     replace HKg138 := B_b HKg138 hb
     replace HKg181 := B_b HKg181 hb
     replace HKg211 := B_b HKg211 hb
     replace HKg246 := B_b HKg246 hb
     replace HS := Z_b HS hb
     replace HB := H_b HB hb
     have HKg418 := Aside0.mk hbox
     replace HS : Aside0 (g418 + 1 ≤ w419.heap.size) := ⟨blk_lt hbox⟩
     clear hg hbox hb
     refine hK.out _ _ ⟨(blk_cell HKg1.out 0).trans rfl, (blk_cell HKg1.out 1).trans rfl, (blk_cell HKg1.out 2).trans rfl, (blk_cell HKg1.out 3).trans rfl, (blk_cell HKg4.out 0).trans rfl, (blk_cell HKg4.out 1).trans rfl, (blk_cell HKg4.out 2).trans rfl, (blk_cell HKg4.out 3).trans rfl⟩ (fun hHeld => ?_)
     clear hK K; refine no 15 ?_
     refine on 4 (some 99) (fun K hK => ?_)
     refine goes_ Try.func40 sqk rfl #[.agg #[.int .i64 t373, .slice Aq389 t374.length cq389, .slice Aq390 t375.length cq390, .slice Aq391 t376.length cq391], .agg #[.int .i64 t378, .slice Aq398 t379.length cq398, .slice Aq399 t380.length cq399, .slice Aq400 t381.length cq400]] (by rfl) rfl rfl sqm ?_
     with_reducible refine (impl_ReplaceAllowed.calls k t373 _ _ t374 _ _ t375 _ _ t376 t378 _ _ t379 _ _ t380 _ _ t381 t383 t384 t385 t386 t39 _ ?side1 ?side2 ?side3 ?side4 ?side5 ?side6 ?side7 ?side8 ?side9 ?side10 ?side11 ?side12 E382.out).mono ?_
     (case side1 => exact (Kd.R_reads' HOq389.out).2.2)
     (case side2 => exact (Kd.R_reads' HOq389.out).2.1)
     (case side3 => exact (Kd.R_reads' HOq390.out).2.2)
     (case side4 => exact (Kd.R_reads' HOq390.out).2.1)
     (case side5 => exact (Kd.R_reads' HOq391.out).2.2)
     (case side6 => exact (Kd.R_reads' HOq391.out).2.1)
     (case side7 => exact (Kd.R_reads' HOq398.out).2.2)
     (case side8 => exact (Kd.R_reads' HOq398.out).2.1)
     (case side9 => exact (Kd.R_reads' HOq399.out).2.2)
     (case side10 => exact (Kd.R_reads' HOq399.out).2.1)
     (case side11 => exact (Kd.R_reads' HOq400.out).2.2)
     (case side12 => exact (Kd.R_reads' HOq400.out).2.1)
     rintro e w421 ⟨v_0, v_1, v_2, rfl, ho0, ho1, ho2, hb⟩
     obtain ⟨Aq422, cq422, rfl⟩ := Kd.R_slice ho0
     obtain ⟨Aq423, cq423, rfl⟩ := Kd.R_slice ho1
     obtain ⟨Aq424, cq424, rfl⟩ := Kd.R_slice ho2
     refine ⟨_, rfl, ?_⟩
     obtain ⟨Lq422, Uq422, Lq423, Uq423, Lq424, Uq424, LG428, UG429, HZ425, HAP427, HZ426, HOq422, HOq423, HOq424⟩ := R_made3 ho0 ho1 ho2 rfl HS.out hb HB.out.size
     replace HOq148 := R_b HOq148 hb
     replace HOq149 := R_b HOq149 hb
     replace HOq150 := R_b HOq150 hb
     replace HOq173 := R_b HOq173 hb
     replace HOq174 := R_b HOq174 hb
     replace HOq175 := R_b HOq175 hb
     replace HOq203 := R_b HOq203 hb
     replace HOq204 := R_b HOq204 hb
     replace HOq205 := R_b HOq205 hb
     replace HOq238 := R_b HOq238 hb
     replace HOq239 := R_b HOq239 hb
     replace HOq240 := R_b HOq240 hb
     replace HOq278 := R_b HOq278 hb
     replace HOq279 := R_b HOq279 hb
     replace HOq280 := R_b HOq280 hb
     replace HOq297 := R_b HOq297 hb
     replace HOq298 := R_b HOq298 hb
     replace HOq299 := R_b HOq299 hb
     replace HOq389 := R_b HOq389 hb
     replace HOq390 := R_b HOq390 hb
     replace HOq391 := R_b HOq391 hb
     replace HOq398 := R_b HOq398 hb
     replace HOq399 := R_b HOq399 hb
     replace HOq400 := R_b HOq400 hb
     replace HKg1 := B_b HKg1 hb
     replace HKg4 := B_b HKg4 hb
     replace HKg138 := B_b HKg138 hb
     replace HKg181 := B_b HKg181 hb
     replace HKg211 := B_b HKg211 hb
     replace HKg246 := B_b HKg246 hb
     replace HKg418 := B_b HKg418 hb
     replace HS := Z_b HS hb
     replace HB := H_b HB hb
     replace HS := HZ426
     clear ho0 ho1 ho2; clear hb
     refine hK.out _ _ ⟨(blk_cell HKg1.out 0).trans rfl, (blk_cell HKg1.out 1).trans rfl, (blk_cell HKg1.out 2).trans rfl, (blk_cell HKg1.out 3).trans rfl, (blk_cell HKg4.out 0).trans rfl, (blk_cell HKg4.out 1).trans rfl, (blk_cell HKg4.out 2).trans rfl, (blk_cell HKg4.out 3).trans rfl⟩ (fun hHeld => ?_)
     clear hK K; refine no 99 ?_; refine pu 5 94 ?_; refine pu 6 100 ?_; refine pu 7 101 ?_
     have hcj : (UG304 ≤ LG428 ∧ LG428 ≤ Lq422 ∧ Lq422 ≤ Uq422 ∧ Uq422 ≤ UG429 ∧ LG428 ≤ Lq423 ∧ Lq423 ≤ Uq423 ∧ Uq423 ≤ UG429 ∧ LG428 ≤ Lq424 ∧ Lq424 ≤ Uq424 ∧ Uq424 ≤ UG429 ∧ UG304 ≤ g418 ∧ (g418 + 1 ≤ LG428 ∨ UG429 ≤ g418) ∧ w.heap.size ≤ g418 ∧ UG429 ≤ w421.heap.size ∧ g418 + 1 ≤ w421.heap.size) := (by have := HZ3.out; have := HZ6.out; have := HZ151.out; have := HZ151m.out; have := HZ176.out; have := HZ183.out; have := HZ206.out; have := HZ213.out; have := HZ241.out; have := HZ248.out; have := HZ281.out; have := HZ300.out; have := HZ392.out; have := HZ401.out; have := HZ420.out; have := HZ425.out; have := HS.out; omega)
     exact norm_ z10_1 (hCont (.agg #[.int .i64 t373, .slice Aq389 t374.length cq389, .slice Aq390 t375.length cq390, .slice Aq391 t376.length cq391], .agg #[.int .i64 t378, .slice Aq398 t379.length cq398, .slice Aq399 t380.length cq399, .slice Aq400 t381.length cq400], .slice Aq422 t384.length cq422, .slice Aq423 t385.length cq423, .slice Aq424 t386.length cq424, g418, Lq422, Uq422, Lq423, Uq423, Lq424, Uq424, LG428, UG429) _ ⟨hHeld, HOq422.out, HOq423.out, HOq424.out, HOq148.out, HOq149.out, HOq150.out, HOq173.out, HOq174.out, HOq175.out, HOq203.out, HOq204.out, HOq205.out, HOq238.out, HOq239.out, HOq240.out, HOq278.out, HOq279.out, HOq280.out, HOq297.out, HOq298.out, HOq299.out, HKg1.out, HKg4.out, HKg138.out, HKg181.out, HKg211.out, HKg246.out, HKg418.out, hcj, HAP427.out, HB.out⟩)
   ·skip
    refine box_step ?hg (N := 15) ?hd (cs := #[.int .i64 0, .slice none 0 0, .slice none 0 0, .slice none 0 0]) (t := 33) ?hr ?_; (case hd => rfl); (case hg => rfl); (case hr => first | (go_simp; done) | (go_simp; rfl))
    intro g430 hg w431 hbox hb
    have HZ432 : Aside0 (UG396 ≤ g430 ∧ w.heap.size ≤ g430) := ⟨by rw [hg]; exact ⟨HS.out, HB.out.size⟩⟩
    replace HOq148 := R_b HOq148 hb
    replace HOq149 := R_b HOq149 hb
    replace HOq150 := R_b HOq150 hb
    replace HOq173 := R_b HOq173 hb
    replace HOq174 := R_b HOq174 hb
    replace HOq175 := R_b HOq175 hb
    replace HOq203 := R_b HOq203 hb
    replace HOq204 := R_b HOq204 hb
    replace HOq205 := R_b HOq205 hb
    replace HOq238 := R_b HOq238 hb
    replace HOq239 := R_b HOq239 hb
    replace HOq240 := R_b HOq240 hb
    replace HOq278 := R_b HOq278 hb
    replace HOq279 := R_b HOq279 hb
    replace HOq280 := R_b HOq280 hb
    replace HOq297 := R_b HOq297 hb
    replace HOq298 := R_b HOq298 hb
    replace HOq299 := R_b HOq299 hb
    replace HOq389 := R_b HOq389 hb
    replace HOq390 := R_b HOq390 hb
    replace HOq391 := R_b HOq391 hb
    replace HKg1 := B_b HKg1 hb
    replace HKg4 := B_b HKg4 hb
    replace HKg138 := B_b HKg138 hb
    replace HKg181 := B_b HKg181 hb
    replace HKg211 := B_b HKg211 hb
    replace HKg246 := B_b HKg246 hb
    replace HS := Z_b HS hb
    replace HB := H_b HB hb
    have HKg430 := Aside0.mk hbox
    replace HS : Aside0 (g430 + 1 ≤ w431.heap.size) := ⟨blk_lt hbox⟩
    clear hg hbox hb
    refine hK.out _ _ ⟨(blk_cell HKg1.out 0).trans rfl, (blk_cell HKg1.out 1).trans rfl, (blk_cell HKg1.out 2).trans rfl, (blk_cell HKg1.out 3).trans rfl, (blk_cell HKg4.out 0).trans rfl, (blk_cell HKg4.out 1).trans rfl, (blk_cell HKg4.out 2).trans rfl, (blk_cell HKg4.out 3).trans rfl⟩ (fun hHeld => ?_)
    clear hK K; refine no 15 ?_
    refine on 3 (some 98) (fun K hK => ?_)
    refine goes_ Try.func22 sqk rfl #[.agg #[.int .i64 a1_0, .slice A1_1 l1_1.length c1_1, .slice A1_2 l1_2.length c1_2, .slice A1_3 l1_3.length c1_3]] (by rfl) rfl rfl sqm ?_
    with_reducible refine (laws_toAllowed.calls k a1_0 _ _ l1_1 _ _ l1_2 _ _ l1_3 t378 t379 t380 t381 _ ?side1 ?side2 ?side3 ?side4 ?side5 ?side6 E377.out).mono ?_
    (case side1 => exact Kd.C_below HR1_1.out HB.out)
    (case side2 => exact HC1_1.out)
    (case side3 => exact Kd.C_below HR1_2.out HB.out)
    (case side4 => exact HC1_2.out)
    (case side5 => exact Kd.C_below HR1_3.out HB.out)
    (case side6 => exact HC1_3.out)
    rintro e w433 ⟨v_0, v_1, v_2, rfl, ho0, ho1, ho2, hb⟩
    obtain ⟨Aq434, cq434, rfl⟩ := Kd.R_slice ho0
    obtain ⟨Aq435, cq435, rfl⟩ := Kd.R_slice ho1
    obtain ⟨Aq436, cq436, rfl⟩ := Kd.R_slice ho2
    refine ⟨_, rfl, ?_⟩
    obtain ⟨Lq434, Uq434, Lq435, Uq435, Lq436, Uq436, LG440, UG441, HZ437, HAP439, HZ438, HOq434, HOq435, HOq436⟩ := R_made3 ho0 ho1 ho2 rfl HS.out hb HB.out.size
    replace HOq148 := R_b HOq148 hb
    replace HOq149 := R_b HOq149 hb
    replace HOq150 := R_b HOq150 hb
    replace HOq173 := R_b HOq173 hb
    replace HOq174 := R_b HOq174 hb
    replace HOq175 := R_b HOq175 hb
    replace HOq203 := R_b HOq203 hb
    replace HOq204 := R_b HOq204 hb
    replace HOq205 := R_b HOq205 hb
    replace HOq238 := R_b HOq238 hb
    replace HOq239 := R_b HOq239 hb
    replace HOq240 := R_b HOq240 hb
    replace HOq278 := R_b HOq278 hb
    replace HOq279 := R_b HOq279 hb
    replace HOq280 := R_b HOq280 hb
    replace HOq297 := R_b HOq297 hb
    replace HOq298 := R_b HOq298 hb
    replace HOq299 := R_b HOq299 hb
    replace HOq389 := R_b HOq389 hb
    replace HOq390 := R_b HOq390 hb
    replace HOq391 := R_b HOq391 hb
    replace HKg1 := B_b HKg1 hb
    replace HKg4 := B_b HKg4 hb
    replace HKg138 := B_b HKg138 hb
    replace HKg181 := B_b HKg181 hb
    replace HKg211 := B_b HKg211 hb
    replace HKg246 := B_b HKg246 hb
    replace HKg430 := B_b HKg430 hb
    replace HS := Z_b HS hb
    replace HB := H_b HB hb
    replace HS := HZ438
    clear ho0 ho1 ho2; clear hb
    refine hK.out _ _ ⟨(blk_cell HKg1.out 0).trans rfl, (blk_cell HKg1.out 1).trans rfl, (blk_cell HKg1.out 2).trans rfl, (blk_cell HKg1.out 3).trans rfl, (blk_cell HKg4.out 0).trans rfl, (blk_cell HKg4.out 1).trans rfl, (blk_cell HKg4.out 2).trans rfl, (blk_cell HKg4.out 3).trans rfl⟩ (fun hHeld => ?_)
    clear hK K; refine no 98 ?_
    refine on 4 (some 99) (fun K hK => ?_)
    refine goes_ Try.func40 sqk rfl #[.agg #[.int .i64 t373, .slice Aq389 t374.length cq389, .slice Aq390 t375.length cq390, .slice Aq391 t376.length cq391], .agg #[.int .i64 t378, .slice Aq434 t379.length cq434, .slice Aq435 t380.length cq435, .slice Aq436 t381.length cq436]] (by rfl) rfl rfl sqm ?_
    with_reducible refine (impl_ReplaceAllowed.calls k t373 _ _ t374 _ _ t375 _ _ t376 t378 _ _ t379 _ _ t380 _ _ t381 t383 t384 t385 t386 t39 _ ?side1 ?side2 ?side3 ?side4 ?side5 ?side6 ?side7 ?side8 ?side9 ?side10 ?side11 ?side12 E382.out).mono ?_
    (case side1 => exact (Kd.R_reads' HOq389.out).2.2)
    (case side2 => exact (Kd.R_reads' HOq389.out).2.1)
    (case side3 => exact (Kd.R_reads' HOq390.out).2.2)
    (case side4 => exact (Kd.R_reads' HOq390.out).2.1)
    (case side5 => exact (Kd.R_reads' HOq391.out).2.2)
    (case side6 => exact (Kd.R_reads' HOq391.out).2.1)
    (case side7 => exact (Kd.R_reads' HOq434.out).2.2)
    (case side8 => exact (Kd.R_reads' HOq434.out).2.1)
    (case side9 => exact (Kd.R_reads' HOq435.out).2.2)
    (case side10 => exact (Kd.R_reads' HOq435.out).2.1)
    (case side11 => exact (Kd.R_reads' HOq436.out).2.2)
    (case side12 => exact (Kd.R_reads' HOq436.out).2.1)
    rintro e w442 ⟨v_0, v_1, v_2, rfl, ho0, ho1, ho2, hb⟩
    obtain ⟨Aq443, cq443, rfl⟩ := Kd.R_slice ho0
    obtain ⟨Aq444, cq444, rfl⟩ := Kd.R_slice ho1
    obtain ⟨Aq445, cq445, rfl⟩ := Kd.R_slice ho2
    refine ⟨_, rfl, ?_⟩
    obtain ⟨Lq443, Uq443, Lq444, Uq444, Lq445, Uq445, LG449, UG450, HZ446, HAP448, HZ447, HOq443, HOq444, HOq445⟩ := R_made3 ho0 ho1 ho2 rfl HS.out hb HB.out.size
    replace HOq148 := R_b HOq148 hb
    replace HOq149 := R_b HOq149 hb
    replace HOq150 := R_b HOq150 hb
    replace HOq173 := R_b HOq173 hb
    replace HOq174 := R_b HOq174 hb
    replace HOq175 := R_b HOq175 hb
    replace HOq203 := R_b HOq203 hb
    replace HOq204 := R_b HOq204 hb
    replace HOq205 := R_b HOq205 hb
    replace HOq238 := R_b HOq238 hb
    replace HOq239 := R_b HOq239 hb
    replace HOq240 := R_b HOq240 hb
    replace HOq278 := R_b HOq278 hb
    replace HOq279 := R_b HOq279 hb
    replace HOq280 := R_b HOq280 hb
    replace HOq297 := R_b HOq297 hb
    replace HOq298 := R_b HOq298 hb
    replace HOq299 := R_b HOq299 hb
    replace HOq389 := R_b HOq389 hb
    replace HOq390 := R_b HOq390 hb
    replace HOq391 := R_b HOq391 hb
    replace HOq434 := R_b HOq434 hb
    replace HOq435 := R_b HOq435 hb
    replace HOq436 := R_b HOq436 hb
    replace HKg1 := B_b HKg1 hb
    replace HKg4 := B_b HKg4 hb
    replace HKg138 := B_b HKg138 hb
    replace HKg181 := B_b HKg181 hb
    replace HKg211 := B_b HKg211 hb
    replace HKg246 := B_b HKg246 hb
    replace HKg430 := B_b HKg430 hb
    replace HS := Z_b HS hb
    replace HB := H_b HB hb
    replace HS := HZ447
    clear ho0 ho1 ho2; clear hb
    refine hK.out _ _ ⟨(blk_cell HKg1.out 0).trans rfl, (blk_cell HKg1.out 1).trans rfl, (blk_cell HKg1.out 2).trans rfl, (blk_cell HKg1.out 3).trans rfl, (blk_cell HKg4.out 0).trans rfl, (blk_cell HKg4.out 1).trans rfl, (blk_cell HKg4.out 2).trans rfl, (blk_cell HKg4.out 3).trans rfl⟩ (fun hHeld => ?_)
    clear hK K; refine no 99 ?_; refine pu 5 94 ?_; refine pu 6 100 ?_; refine pu 7 101 ?_
    have hcj : (UG304 ≤ LG449 ∧ LG449 ≤ Lq443 ∧ Lq443 ≤ Uq443 ∧ Uq443 ≤ UG450 ∧ LG449 ≤ Lq444 ∧ Lq444 ≤ Uq444 ∧ Uq444 ≤ UG450 ∧ LG449 ≤ Lq445 ∧ Lq445 ≤ Uq445 ∧ Uq445 ≤ UG450 ∧ UG304 ≤ g430 ∧ (g430 + 1 ≤ LG449 ∨ UG450 ≤ g430) ∧ w.heap.size ≤ g430 ∧ UG450 ≤ w442.heap.size ∧ g430 + 1 ≤ w442.heap.size) := (by have := HZ3.out; have := HZ6.out; have := HZ151.out; have := HZ151m.out; have := HZ176.out; have := HZ183.out; have := HZ206.out; have := HZ213.out; have := HZ241.out; have := HZ248.out; have := HZ281.out; have := HZ300.out; have := HZ392.out; have := HZ432.out; have := HZ437.out; have := HZ446.out; have := HS.out; omega)
    exact norm_ z10_1 (hCont (.agg #[.int .i64 t373, .slice Aq389 t374.length cq389, .slice Aq390 t375.length cq390, .slice Aq391 t376.length cq391], .agg #[.int .i64 t378, .slice Aq434 t379.length cq434, .slice Aq435 t380.length cq435, .slice Aq436 t381.length cq436], .slice Aq443 t384.length cq443, .slice Aq444 t385.length cq444, .slice Aq445 t386.length cq445, g430, Lq443, Uq443, Lq444, Uq444, Lq445, Uq445, LG449, UG450) _ ⟨hHeld, HOq443.out, HOq444.out, HOq445.out, HOq148.out, HOq149.out, HOq150.out, HOq173.out, HOq174.out, HOq175.out, HOq203.out, HOq204.out, HOq205.out, HOq238.out, HOq239.out, HOq240.out, HOq278.out, HOq279.out, HOq280.out, HOq297.out, HOq298.out, HOq299.out, HKg1.out, HKg4.out, HKg138.out, HKg181.out, HKg211.out, HKg246.out, HKg430.out, hcj, HAP448.out, HB.out⟩)
  ·skip
   refine box_step ?hg (N := 15) ?hd (cs := #[.int .i64 0, .slice none 0 0, .slice none 0 0, .slice none 0 0]) (t := 33) ?hr ?_; (case hd => rfl); (case hg => rfl); (case hr => first | (go_simp; done) | (go_simp; rfl))
   intro g451 hg w452 hbox hb
   have HZ453 : Aside0 (UG304 ≤ g451 ∧ w.heap.size ≤ g451) := ⟨by rw [hg]; exact ⟨HS.out, HB.out.size⟩⟩
   replace HOq148 := R_b HOq148 hb
   replace HOq149 := R_b HOq149 hb
   replace HOq150 := R_b HOq150 hb
   replace HOq173 := R_b HOq173 hb
   replace HOq174 := R_b HOq174 hb
   replace HOq175 := R_b HOq175 hb
   replace HOq203 := R_b HOq203 hb
   replace HOq204 := R_b HOq204 hb
   replace HOq205 := R_b HOq205 hb
   replace HOq238 := R_b HOq238 hb
   replace HOq239 := R_b HOq239 hb
   replace HOq240 := R_b HOq240 hb
   replace HOq278 := R_b HOq278 hb
   replace HOq279 := R_b HOq279 hb
   replace HOq280 := R_b HOq280 hb
   replace HOq297 := R_b HOq297 hb
   replace HOq298 := R_b HOq298 hb
   replace HOq299 := R_b HOq299 hb
   replace HKg1 := B_b HKg1 hb
   replace HKg4 := B_b HKg4 hb
   replace HKg138 := B_b HKg138 hb
   replace HKg181 := B_b HKg181 hb
   replace HKg211 := B_b HKg211 hb
   replace HKg246 := B_b HKg246 hb
   replace HS := Z_b HS hb
   replace HB := H_b HB hb
   have HKg451 := Aside0.mk hbox
   replace HS : Aside0 (g451 + 1 ≤ w452.heap.size) := ⟨blk_lt hbox⟩
   clear hg hbox hb
   refine hK.out _ _ ⟨(blk_cell HKg1.out 0).trans rfl, (blk_cell HKg1.out 1).trans rfl, (blk_cell HKg1.out 2).trans rfl, (blk_cell HKg1.out 3).trans rfl, (blk_cell HKg4.out 0).trans rfl, (blk_cell HKg4.out 1).trans rfl, (blk_cell HKg4.out 2).trans rfl, (blk_cell HKg4.out 3).trans rfl⟩ (fun hHeld => ?_)
   clear hK K; refine no 15 ?_
   refine on 1 (some 96) (fun K hK => ?_)
   refine goes_ Try.func22 sqk rfl #[.agg #[.int .i64 a0_0, .slice A0_1 l0_1.length c0_1, .slice A0_2 l0_2.length c0_2, .slice A0_3 l0_3.length c0_3]] (by rfl) rfl rfl sqm ?_
   with_reducible refine (laws_toAllowed.calls k a0_0 _ _ l0_1 _ _ l0_2 _ _ l0_3 t373 t374 t375 t376 _ ?side1 ?side2 ?side3 ?side4 ?side5 ?side6 E372.out).mono ?_
   (case side1 => exact Kd.C_below HR0_1.out HB.out)
   (case side2 => exact HC0_1.out)
   (case side3 => exact Kd.C_below HR0_2.out HB.out)
   (case side4 => exact HC0_2.out)
   (case side5 => exact Kd.C_below HR0_3.out HB.out)
   (case side6 => exact HC0_3.out)
   rintro e w454 ⟨v_0, v_1, v_2, rfl, ho0, ho1, ho2, hb⟩
   obtain ⟨Aq455, cq455, rfl⟩ := Kd.R_slice ho0
   obtain ⟨Aq456, cq456, rfl⟩ := Kd.R_slice ho1
   obtain ⟨Aq457, cq457, rfl⟩ := Kd.R_slice ho2
   refine ⟨_, rfl, ?_⟩
   obtain ⟨Lq455, Uq455, Lq456, Uq456, Lq457, Uq457, LG461, UG462, HZ458, HAP460, HZ459, HOq455, HOq456, HOq457⟩ := R_made3 ho0 ho1 ho2 rfl HS.out hb HB.out.size
   replace HOq148 := R_b HOq148 hb
   replace HOq149 := R_b HOq149 hb
   replace HOq150 := R_b HOq150 hb
   replace HOq173 := R_b HOq173 hb
   replace HOq174 := R_b HOq174 hb
   replace HOq175 := R_b HOq175 hb
   replace HOq203 := R_b HOq203 hb
   replace HOq204 := R_b HOq204 hb
   replace HOq205 := R_b HOq205 hb
   replace HOq238 := R_b HOq238 hb
   replace HOq239 := R_b HOq239 hb
   replace HOq240 := R_b HOq240 hb
   replace HOq278 := R_b HOq278 hb
   replace HOq279 := R_b HOq279 hb
   replace HOq280 := R_b HOq280 hb
   replace HOq297 := R_b HOq297 hb
   replace HOq298 := R_b HOq298 hb
   replace HOq299 := R_b HOq299 hb
   replace HKg1 := B_b HKg1 hb
   replace HKg4 := B_b HKg4 hb
   replace HKg138 := B_b HKg138 hb
   replace HKg181 := B_b HKg181 hb
   replace HKg211 := B_b HKg211 hb
   replace HKg246 := B_b HKg246 hb
   replace HKg451 := B_b HKg451 hb
   replace HS := Z_b HS hb
   replace HB := H_b HB hb
   replace HS := HZ459
   clear ho0 ho1 ho2; clear hb
   refine hK.out _ _ ⟨(blk_cell HKg1.out 0).trans rfl, (blk_cell HKg1.out 1).trans rfl, (blk_cell HKg1.out 2).trans rfl, (blk_cell HKg1.out 3).trans rfl, (blk_cell HKg4.out 0).trans rfl, (blk_cell HKg4.out 1).trans rfl, (blk_cell HKg4.out 2).trans rfl, (blk_cell HKg4.out 3).trans rfl⟩ (fun hHeld => ?_)
   clear hK K; refine no 96 ?_
   refine on 3 (some 98) (fun K hK => ?_)
   refine goes_ Try.func22 sqk rfl #[.agg #[.int .i64 a1_0, .slice A1_1 l1_1.length c1_1, .slice A1_2 l1_2.length c1_2, .slice A1_3 l1_3.length c1_3]] (by rfl) rfl rfl sqm ?_
   with_reducible refine (laws_toAllowed.calls k a1_0 _ _ l1_1 _ _ l1_2 _ _ l1_3 t378 t379 t380 t381 _ ?side1 ?side2 ?side3 ?side4 ?side5 ?side6 E377.out).mono ?_
   (case side1 => exact Kd.C_below HR1_1.out HB.out)
   (case side2 => exact HC1_1.out)
   (case side3 => exact Kd.C_below HR1_2.out HB.out)
   (case side4 => exact HC1_2.out)
   (case side5 => exact Kd.C_below HR1_3.out HB.out)
   (case side6 => exact HC1_3.out)
   rintro e w463 ⟨v_0, v_1, v_2, rfl, ho0, ho1, ho2, hb⟩
   obtain ⟨Aq464, cq464, rfl⟩ := Kd.R_slice ho0
   obtain ⟨Aq465, cq465, rfl⟩ := Kd.R_slice ho1
   obtain ⟨Aq466, cq466, rfl⟩ := Kd.R_slice ho2
   refine ⟨_, rfl, ?_⟩
   obtain ⟨Lq464, Uq464, Lq465, Uq465, Lq466, Uq466, LG470, UG471, HZ467, HAP469, HZ468, HOq464, HOq465, HOq466⟩ := R_made3 ho0 ho1 ho2 rfl HS.out hb HB.out.size
   replace HOq148 := R_b HOq148 hb
   replace HOq149 := R_b HOq149 hb
   replace HOq150 := R_b HOq150 hb
   replace HOq173 := R_b HOq173 hb
   replace HOq174 := R_b HOq174 hb
   replace HOq175 := R_b HOq175 hb
   replace HOq203 := R_b HOq203 hb
   replace HOq204 := R_b HOq204 hb
   replace HOq205 := R_b HOq205 hb
   replace HOq238 := R_b HOq238 hb
   replace HOq239 := R_b HOq239 hb
   replace HOq240 := R_b HOq240 hb
   replace HOq278 := R_b HOq278 hb
   replace HOq279 := R_b HOq279 hb
   replace HOq280 := R_b HOq280 hb
   replace HOq297 := R_b HOq297 hb
   replace HOq298 := R_b HOq298 hb
   replace HOq299 := R_b HOq299 hb
   replace HOq455 := R_b HOq455 hb
   replace HOq456 := R_b HOq456 hb
   replace HOq457 := R_b HOq457 hb
   replace HKg1 := B_b HKg1 hb
   replace HKg4 := B_b HKg4 hb
   replace HKg138 := B_b HKg138 hb
   replace HKg181 := B_b HKg181 hb
   replace HKg211 := B_b HKg211 hb
   replace HKg246 := B_b HKg246 hb
   replace HKg451 := B_b HKg451 hb
   replace HS := Z_b HS hb
   replace HB := H_b HB hb
   replace HS := HZ468
   clear ho0 ho1 ho2; clear hb
   refine hK.out _ _ ⟨(blk_cell HKg1.out 0).trans rfl, (blk_cell HKg1.out 1).trans rfl, (blk_cell HKg1.out 2).trans rfl, (blk_cell HKg1.out 3).trans rfl, (blk_cell HKg4.out 0).trans rfl, (blk_cell HKg4.out 1).trans rfl, (blk_cell HKg4.out 2).trans rfl, (blk_cell HKg4.out 3).trans rfl⟩ (fun hHeld => ?_)
   clear hK K; refine no 98 ?_
   refine on 4 (some 99) (fun K hK => ?_)
   refine goes_ Try.func40 sqk rfl #[.agg #[.int .i64 t373, .slice Aq455 t374.length cq455, .slice Aq456 t375.length cq456, .slice Aq457 t376.length cq457], .agg #[.int .i64 t378, .slice Aq464 t379.length cq464, .slice Aq465 t380.length cq465, .slice Aq466 t381.length cq466]] (by rfl) rfl rfl sqm ?_
   with_reducible refine (impl_ReplaceAllowed.calls k t373 _ _ t374 _ _ t375 _ _ t376 t378 _ _ t379 _ _ t380 _ _ t381 t383 t384 t385 t386 t39 _ ?side1 ?side2 ?side3 ?side4 ?side5 ?side6 ?side7 ?side8 ?side9 ?side10 ?side11 ?side12 E382.out).mono ?_
   (case side1 => exact (Kd.R_reads' HOq455.out).2.2)
   (case side2 => exact (Kd.R_reads' HOq455.out).2.1)
   (case side3 => exact (Kd.R_reads' HOq456.out).2.2)
   (case side4 => exact (Kd.R_reads' HOq456.out).2.1)
   (case side5 => exact (Kd.R_reads' HOq457.out).2.2)
   (case side6 => exact (Kd.R_reads' HOq457.out).2.1)
   (case side7 => exact (Kd.R_reads' HOq464.out).2.2)
   (case side8 => exact (Kd.R_reads' HOq464.out).2.1)
   (case side9 => exact (Kd.R_reads' HOq465.out).2.2)
   (case side10 => exact (Kd.R_reads' HOq465.out).2.1)
   (case side11 => exact (Kd.R_reads' HOq466.out).2.2)
   (case side12 => exact (Kd.R_reads' HOq466.out).2.1)
   rintro e w472 ⟨v_0, v_1, v_2, rfl, ho0, ho1, ho2, hb⟩
   obtain ⟨Aq473, cq473, rfl⟩ := Kd.R_slice ho0
   obtain ⟨Aq474, cq474, rfl⟩ := Kd.R_slice ho1
   obtain ⟨Aq475, cq475, rfl⟩ := Kd.R_slice ho2
   refine ⟨_, rfl, ?_⟩
   obtain ⟨Lq473, Uq473, Lq474, Uq474, Lq475, Uq475, LG479, UG480, HZ476, HAP478, HZ477, HOq473, HOq474, HOq475⟩ := R_made3 ho0 ho1 ho2 rfl HS.out hb HB.out.size
   replace HOq148 := R_b HOq148 hb
   replace HOq149 := R_b HOq149 hb
   replace HOq150 := R_b HOq150 hb
   replace HOq173 := R_b HOq173 hb
   replace HOq174 := R_b HOq174 hb
   replace HOq175 := R_b HOq175 hb
   replace HOq203 := R_b HOq203 hb
   replace HOq204 := R_b HOq204 hb
   replace HOq205 := R_b HOq205 hb
   replace HOq238 := R_b HOq238 hb
   replace HOq239 := R_b HOq239 hb
   replace HOq240 := R_b HOq240 hb
   replace HOq278 := R_b HOq278 hb
   replace HOq279 := R_b HOq279 hb
   replace HOq280 := R_b HOq280 hb
   replace HOq297 := R_b HOq297 hb
   replace HOq298 := R_b HOq298 hb
   replace HOq299 := R_b HOq299 hb
   replace HOq455 := R_b HOq455 hb
   replace HOq456 := R_b HOq456 hb
   replace HOq457 := R_b HOq457 hb
   replace HOq464 := R_b HOq464 hb
   replace HOq465 := R_b HOq465 hb
   replace HOq466 := R_b HOq466 hb
   replace HKg1 := B_b HKg1 hb
   replace HKg4 := B_b HKg4 hb
   replace HKg138 := B_b HKg138 hb
   replace HKg181 := B_b HKg181 hb
   replace HKg211 := B_b HKg211 hb
   replace HKg246 := B_b HKg246 hb
   replace HKg451 := B_b HKg451 hb
   replace HS := Z_b HS hb
   replace HB := H_b HB hb
   replace HS := HZ477
   clear ho0 ho1 ho2; clear hb
   refine hK.out _ _ ⟨(blk_cell HKg1.out 0).trans rfl, (blk_cell HKg1.out 1).trans rfl, (blk_cell HKg1.out 2).trans rfl, (blk_cell HKg1.out 3).trans rfl, (blk_cell HKg4.out 0).trans rfl, (blk_cell HKg4.out 1).trans rfl, (blk_cell HKg4.out 2).trans rfl, (blk_cell HKg4.out 3).trans rfl⟩ (fun hHeld => ?_)
   clear hK K; refine no 99 ?_; refine pu 5 94 ?_; refine pu 6 100 ?_; refine pu 7 101 ?_
   have hcj : (UG304 ≤ LG479 ∧ LG479 ≤ Lq473 ∧ Lq473 ≤ Uq473 ∧ Uq473 ≤ UG480 ∧ LG479 ≤ Lq474 ∧ Lq474 ≤ Uq474 ∧ Uq474 ≤ UG480 ∧ LG479 ≤ Lq475 ∧ Lq475 ≤ Uq475 ∧ Uq475 ≤ UG480 ∧ UG304 ≤ g451 ∧ (g451 + 1 ≤ LG479 ∨ UG480 ≤ g451) ∧ w.heap.size ≤ g451 ∧ UG480 ≤ w472.heap.size ∧ g451 + 1 ≤ w472.heap.size) := (by have := HZ3.out; have := HZ6.out; have := HZ151.out; have := HZ151m.out; have := HZ176.out; have := HZ183.out; have := HZ206.out; have := HZ213.out; have := HZ241.out; have := HZ248.out; have := HZ281.out; have := HZ300.out; have := HZ453.out; have := HZ458.out; have := HZ467.out; have := HZ476.out; have := HS.out; omega)
   exact norm_ z10_1 (hCont (.agg #[.int .i64 t373, .slice Aq455 t374.length cq455, .slice Aq456 t375.length cq456, .slice Aq457 t376.length cq457], .agg #[.int .i64 t378, .slice Aq464 t379.length cq464, .slice Aq465 t380.length cq465, .slice Aq466 t381.length cq466], .slice Aq473 t384.length cq473, .slice Aq474 t385.length cq474, .slice Aq475 t386.length cq475, g451, Lq473, Uq473, Lq474, Uq474, Lq475, Uq475, LG479, UG480) _ ⟨hHeld, HOq473.out, HOq474.out, HOq475.out, HOq148.out, HOq149.out, HOq150.out, HOq173.out, HOq174.out, HOq175.out, HOq203.out, HOq204.out, HOq205.out, HOq238.out, HOq239.out, HOq240.out, HOq278.out, HOq279.out, HOq280.out, HOq297.out, HOq298.out, HOq299.out, HKg1.out, HKg4.out, HKg138.out, HKg181.out, HKg211.out, HKg246.out, HKg451.out, hcj, HAP478.out, HB.out⟩)
 rintro ⟨u481, u482, u483, u484, u485, g486, L487, U488, L489, U490, L491, U492, LG493, UG494⟩ w495 ⟨hS_, h0_, h1_, h2_, h3_, h4_, h5_, h6_, h7_, h8_, h9_, h10_, h11_, h12_, h13_, h14_, h15_, h16_, h17_, h18_, h19_, h20_, h21_, h22_, h23_, h24_, h25_, h26_, h27_, h28_, h29_, h30_⟩
 clear HOq148 HOq149 HOq150 HOq173 HOq174 HOq175 HOq203 HOq204 HOq205 HOq238 HOq239 HOq240 HOq278 HOq279 HOq280 HOq297 HOq298 HOq299 HKg1 HKg4 HKg138 HKg181 HKg211 HKg246 HS HB hHeld
 have HOq496 : Aside0 (Kd.R (Kd.int .i64) 3 w495 w.heap.size (fun x => L487 ≤ x ∧ x < U488) u483 t384) := ⟨h0_⟩
 have HOq497 : Aside0 (Kd.R (Kd.int .i64) 3 w495 w.heap.size (fun x => L489 ≤ x ∧ x < U490) u484 t385) := ⟨h1_⟩
 have HOq498 : Aside0 (Kd.R (Kd.int .i64) 3 w495 w.heap.size (fun x => L491 ≤ x ∧ x < U492) u485 t386) := ⟨h2_⟩
 have HOq148 : Aside0 (Kd.R (Kd.int .i64) 3 w495 w.heap.size (fun x => L139 ≤ x ∧ x < U140) (.slice Aq148 t36.length cq148) t36) := ⟨h3_⟩
 have HOq149 : Aside0 (Kd.R (Kd.int .i64) 3 w495 w.heap.size (fun x => L141 ≤ x ∧ x < U142) (.slice Aq149 t37.length cq149) t37) := ⟨h4_⟩
 have HOq150 : Aside0 (Kd.R (Kd.int .i64) 3 w495 w.heap.size (fun x => L143 ≤ x ∧ x < U144) (.slice Aq150 t38.length cq150) t38) := ⟨h5_⟩
 have HOq173 : Aside0 (Kd.R (Kd.int .i64) 3 w495 w.heap.size (fun x => Lq173 ≤ x ∧ x < Uq173) (.slice Aq173 t169.length cq173) t315) := ⟨h6_⟩
 have HOq174 : Aside0 (Kd.R (Kd.int .i64) 3 w495 w.heap.size (fun x => Lq174 ≤ x ∧ x < Uq174) (.slice Aq174 t170.length cq174) t316) := ⟨h7_⟩
 have HOq175 : Aside0 (Kd.R (Kd.int .i64) 3 w495 w.heap.size (fun x => Lq175 ≤ x ∧ x < Uq175) (.slice Aq175 t171.length cq175) t317) := ⟨h8_⟩
 have HOq203 : Aside0 (Kd.R (Kd.int .i64) 3 w495 w.heap.size (fun x => Lq203 ≤ x ∧ x < Uq203) (.slice Aq203 t199.length cq203) t328) := ⟨h9_⟩
 have HOq204 : Aside0 (Kd.R (Kd.int .i64) 3 w495 w.heap.size (fun x => Lq204 ≤ x ∧ x < Uq204) (.slice Aq204 t200.length cq204) t329) := ⟨h10_⟩
 have HOq205 : Aside0 (Kd.R (Kd.int .i64) 3 w495 w.heap.size (fun x => Lq205 ≤ x ∧ x < Uq205) (.slice Aq205 t201.length cq205) t330) := ⟨h11_⟩
 have HOq238 : Aside0 (Kd.R (Kd.int .i64) 3 w495 w.heap.size (fun x => Lq238 ≤ x ∧ x < Uq238) (.slice Aq238 t233.length cq238) t355) := ⟨h12_⟩
 have HOq239 : Aside0 (Kd.R (Kd.int .i64) 3 w495 w.heap.size (fun x => Lq239 ≤ x ∧ x < Uq239) (.slice Aq239 t234.length cq239) t356) := ⟨h13_⟩
 have HOq240 : Aside0 (Kd.R (Kd.int .i64) 3 w495 w.heap.size (fun x => Lq240 ≤ x ∧ x < Uq240) (.slice Aq240 t235.length cq240) t357) := ⟨h14_⟩
 have HOq278 : Aside0 (Kd.R (Kd.int .i64) 3 w495 w.heap.size (fun x => Lq278 ≤ x ∧ x < Uq278) (.slice Aq278 t274.length cq278) t274) := ⟨h15_⟩
 have HOq279 : Aside0 (Kd.R (Kd.int .i64) 3 w495 w.heap.size (fun x => Lq279 ≤ x ∧ x < Uq279) (.slice Aq279 t275.length cq279) t275) := ⟨h16_⟩
 have HOq280 : Aside0 (Kd.R (Kd.int .i64) 3 w495 w.heap.size (fun x => Lq280 ≤ x ∧ x < Uq280) (.slice Aq280 t276.length cq280) t276) := ⟨h17_⟩
 have HOq297 : Aside0 (Kd.R (Kd.int .i64) 3 w495 w.heap.size (fun x => Lq297 ≤ x ∧ x < Uq297) (.slice Aq297 t293.length cq297) t293) := ⟨h18_⟩
 have HOq298 : Aside0 (Kd.R (Kd.int .i64) 3 w495 w.heap.size (fun x => Lq298 ≤ x ∧ x < Uq298) (.slice Aq298 t294.length cq298) t294) := ⟨h19_⟩
 have HOq299 : Aside0 (Kd.R (Kd.int .i64) 3 w495 w.heap.size (fun x => Lq299 ≤ x ∧ x < Uq299) (.slice Aq299 t295.length cq299) t295) := ⟨h20_⟩
 have HKg1 : Aside0 (w495.heap[g1]? = some (.cells #[.int .i64 a0_0, .slice A0_1 l0_1.length c0_1, .slice A0_2 l0_2.length c0_2, .slice A0_3 l0_3.length c0_3] 30 (0, 0))) := ⟨h21_⟩
 have HKg4 : Aside0 (w495.heap[g4]? = some (.cells #[.int .i64 a1_0, .slice A1_1 l1_1.length c1_1, .slice A1_2 l1_2.length c1_2, .slice A1_3 l1_3.length c1_3] 30 (0, 0))) := ⟨h22_⟩
 have HKg138 : Aside0 (w495.heap[g138]? = some (.cells #[.int .i64 t35, .slice Aq148 t36.length cq148, .slice Aq149 t37.length cq149, .slice Aq150 t38.length cq150] 33 (0, 0))) := ⟨h23_⟩
 have HKg181 : Aside0 (w495.heap[g181]? = some (.cells #[.int .i64 t168, .slice Aq173 t169.length cq173, .slice Aq174 t170.length cq174, .slice Aq175 t171.length cq175] 33 (0, 0))) := ⟨h24_⟩
 have HKg211 : Aside0 (w495.heap[g211]? = some (.cells #[.int .i64 t198, .slice Aq203 t199.length cq203, .slice Aq204 t200.length cq204, .slice Aq205 t201.length cq205] 33 (0, 0))) := ⟨h25_⟩
 have HKg246 : Aside0 (w495.heap[g246]? = some (.cells #[.int .i64 t232, .slice Aq238 t233.length cq238, .slice Aq239 t234.length cq239, .slice Aq240 t235.length cq240] 33 (0, 0))) := ⟨h26_⟩
 have HKg486 : Aside0 (w495.heap[g486]? = some (.cells #[.int .i64 0, .slice none 0 0, .slice none 0 0, .slice none 0 0] 33 (0, 0))) := ⟨h27_⟩
 have HZ499 : Aside0 ((UG304 ≤ LG493 ∧ LG493 ≤ L487 ∧ L487 ≤ U488 ∧ U488 ≤ UG494 ∧ LG493 ≤ L489 ∧ L489 ≤ U490 ∧ U490 ≤ UG494 ∧ LG493 ≤ L491 ∧ L491 ≤ U492 ∧ U492 ≤ UG494 ∧ UG304 ≤ g486 ∧ (g486 + 1 ≤ LG493 ∨ UG494 ≤ g486) ∧ w.heap.size ≤ g486 ∧ UG494 ≤ w495.heap.size ∧ g486 + 1 ≤ w495.heap.size)) := ⟨h28_⟩
 have HAP500 : Aside0 (((U488 ≤ L489 ∨ U490 ≤ L487) ∧ (U488 ≤ L491 ∨ U492 ≤ L487) ∧ (U490 ≤ L491 ∨ U492 ≤ L489))) := ⟨h29_⟩
 have HB : Aside0 (Below w.heap.size w w495) := ⟨h30_⟩
 obtain ⟨M501, hM_⟩ : ∃ m, m = w495.heap.size := ⟨_, rfl⟩
 have HZ499m : Aside0 (UG494 ≤ M501 ∧ g486 + 1 ≤ M501) := ⟨by have := HZ499.out; rw [hM_]; omega⟩
 have HS : Aside0 (M501 ≤ w495.heap.size) := ⟨by rw [hM_]; exact Nat.le_refl _⟩
 replace HZ499 : Aside0 ((UG304 ≤ LG493 ∧ LG493 ≤ L487 ∧ L487 ≤ U488 ∧ U488 ≤ UG494 ∧ LG493 ≤ L489 ∧ L489 ≤ U490 ∧ U490 ≤ UG494 ∧ LG493 ≤ L491 ∧ L491 ≤ U492 ∧ U492 ≤ UG494 ∧ UG304 ≤ g486 ∧ (g486 + 1 ≤ LG493 ∨ UG494 ≤ g486) ∧ w.heap.size ≤ g486)) := ⟨by have := HZ499.out; omega⟩
 clear hM_
 have hHeld : w495.cell? ⟨g1, 0, none⟩ = some (.int .i64 a0_0) ∧ w495.cell? ⟨g1, 1, none⟩ = some (.slice A0_1 l0_1.length c0_1) ∧ w495.cell? ⟨g1, 2, none⟩ = some (.slice A0_2 l0_2.length c0_2) ∧ w495.cell? ⟨g1, 3, none⟩ = some (.slice A0_3 l0_3.length c0_3) ∧ w495.cell? ⟨g4, 0, none⟩ = some (.int .i64 a1_0) ∧ w495.cell? ⟨g4, 1, none⟩ = some (.slice A1_1 l1_1.length c1_1) ∧ w495.cell? ⟨g4, 2, none⟩ = some (.slice A1_2 l1_2.length c1_2) ∧ w495.cell? ⟨g4, 3, none⟩ = some (.slice A1_3 l1_3.length c1_3) := hS_
 clear hS_ h0_ h1_ h2_ h3_ h4_ h5_ h6_ h7_ h8_ h9_ h10_ h11_ h12_ h13_ h14_ h15_ h16_ h17_ h18_ h19_ h20_ h21_ h22_ h23_ h24_ h25_ h26_ h27_ h28_ h29_ h30_
 obtain ⟨Aq496, cq496, rfl⟩ := Kd.R_slice HOq496.out
 obtain ⟨Aq497, cq497, rfl⟩ := Kd.R_slice HOq497.out
 obtain ⟨Aq498, cq498, rfl⟩ := Kd.R_slice HOq498.out
 refine norm_ (a' := ?_) ?_ ?_
 rotate_left
 ·simp only [putAll, Act.put, List.setIfInBounds_toArray, List.set_cons_zero, List.set_cons_succ]
  rfl
 refine on 9 none (fun K hK => ?_)
 have hc503 : w495.cell? ⟨g486, 0, none⟩ = some (.int .i64 0) := (blk_cell HKg486.out 0).trans rfl
 have hf504 := blk_frozen HKg486.out 0
 have hc505 : w495.cell? ⟨g486, 1, none⟩ = some (.slice none 0 0) := (blk_cell HKg486.out 1).trans rfl
 have hf506 := blk_frozen HKg486.out 1
 have hc507 : w495.cell? ⟨g486, 2, none⟩ = some (.slice none 0 0) := (blk_cell HKg486.out 2).trans rfl
 have hf508 := blk_frozen HKg486.out 2
 have hc509 : w495.cell? ⟨g486, 3, none⟩ = some (.slice none 0 0) := (blk_cell HKg486.out 3).trans rfl
 have hf510 := blk_frozen HKg486.out 3
 refine skip_ (w1 := ((((w495.setCell ⟨g486, 0, none⟩ (.int .i64 t383)).setCell ⟨g486, 1, none⟩ (.slice Aq496 t384.length cq496)).setCell ⟨g486, 2, none⟩ (.slice Aq497 t385.length cq497)).setCell ⟨g486, 3, none⟩ (.slice Aq498 t386.length cq498))) (by rfl) rfl ?_ ?_
 ·first | (go_simp; done) | (go_simp; rfl)
 obtain ⟨w502, hw⟩ : ∃ x, x = ((((w495.setCell ⟨g486, 0, none⟩ (.int .i64 t383)).setCell ⟨g486, 1, none⟩ (.slice Aq496 t384.length cq496)).setCell ⟨g486, 2, none⟩ (.slice Aq497 t385.length cq497)).setCell ⟨g486, 3, none⟩ (.slice Aq498 t386.length cq498)) := ⟨_, rfl⟩
 rw [← hw]
 (try clear hc503 hf504 hc505 hf506 hc507 hf508 hc509 hf510)
 have hge_ : w.heap.size ≤ g486 := (by have := HZ3.out; have := HZ6.out; have := HZ151.out; have := HZ151m.out; have := HZ176.out; have := HZ183.out; have := HZ206.out; have := HZ213.out; have := HZ241.out; have := HZ248.out; have := HZ281.out; have := HZ300.out; have := HZ499.out; have := HZ499m.out; omega)
 have hk : Kept w495 w502 (fun x => x = g486) := z10_0
 replace HB : Aside0 (Below w.heap.size w w502) := ⟨by rw [hw]; exact below_set (below_set (below_set (below_set (HB.out) hge_) hge_) hge_) hge_⟩
 replace HKg486 : Aside0 (w502.heap[g486]? = some (.cells #[.int .i64 t383, .slice Aq496 t384.length cq496, .slice Aq497 t385.length cq497, .slice Aq498 t386.length cq498] 33 (0, 0))) := ⟨by rw [hw]; exact blk_put (cs := #[.int .i64 t383, .slice Aq496 t384.length cq496, .slice Aq497 t385.length cq497, .slice none 0 0]) (blk_put (cs := #[.int .i64 t383, .slice Aq496 t384.length cq496, .slice none 0 0, .slice none 0 0]) (blk_put (cs := #[.int .i64 t383, .slice none 0 0, .slice none 0 0, .slice none 0 0]) (blk_put (cs := #[.int .i64 0, .slice none 0 0, .slice none 0 0, .slice none 0 0]) (HKg486.out) 0 _ rfl) 1 _ rfl) 2 _ rfl) 3 _ rfl⟩
 replace HOq148 := R_k HOq148 hk (fun x h1 h2 => (by have := HZ3.out; have := HZ6.out; have := HZ151.out; have := HZ151m.out; have := HZ176.out; have := HZ183.out; have := HZ206.out; have := HZ213.out; have := HZ241.out; have := HZ248.out; have := HZ281.out; have := HZ300.out; have := HZ499.out; have := HZ499m.out; have h3_ : L139 ≤ x ∧ x < U140 := h1; have h4_ : x = g486 := h2; omega))
 replace HOq149 := R_k HOq149 hk (fun x h1 h2 => (by have := HZ3.out; have := HZ6.out; have := HZ151.out; have := HZ151m.out; have := HZ176.out; have := HZ183.out; have := HZ206.out; have := HZ213.out; have := HZ241.out; have := HZ248.out; have := HZ281.out; have := HZ300.out; have := HZ499.out; have := HZ499m.out; have h3_ : L141 ≤ x ∧ x < U142 := h1; have h4_ : x = g486 := h2; omega))
 replace HOq150 := R_k HOq150 hk (fun x h1 h2 => (by have := HZ3.out; have := HZ6.out; have := HZ151.out; have := HZ151m.out; have := HZ176.out; have := HZ183.out; have := HZ206.out; have := HZ213.out; have := HZ241.out; have := HZ248.out; have := HZ281.out; have := HZ300.out; have := HZ499.out; have := HZ499m.out; have h3_ : L143 ≤ x ∧ x < U144 := h1; have h4_ : x = g486 := h2; omega))
 replace HOq173 := R_k HOq173 hk (fun x h1 h2 => (by have := HZ3.out; have := HZ6.out; have := HZ151.out; have := HZ151m.out; have := HZ176.out; have := HZ183.out; have := HZ206.out; have := HZ213.out; have := HZ241.out; have := HZ248.out; have := HZ281.out; have := HZ300.out; have := HZ499.out; have := HZ499m.out; have h3_ : Lq173 ≤ x ∧ x < Uq173 := h1; have h4_ : x = g486 := h2; omega))
 replace HOq174 := R_k HOq174 hk (fun x h1 h2 => (by have := HZ3.out; have := HZ6.out; have := HZ151.out; have := HZ151m.out; have := HZ176.out; have := HZ183.out; have := HZ206.out; have := HZ213.out; have := HZ241.out; have := HZ248.out; have := HZ281.out; have := HZ300.out; have := HZ499.out; have := HZ499m.out; have h3_ : Lq174 ≤ x ∧ x < Uq174 := h1; have h4_ : x = g486 := h2; omega))
 replace HOq175 := R_k HOq175 hk (fun x h1 h2 => (by have := HZ3.out; have := HZ6.out; have := HZ151.out; have := HZ151m.out; have := HZ176.out; have := HZ183.out; have := HZ206.out; have := HZ213.out; have := HZ241.out; have := HZ248.out; have := HZ281.out; have := HZ300.out; have := HZ499.out; have := HZ499m.out; have h3_ : Lq175 ≤ x ∧ x < Uq175 := h1; have h4_ : x = g486 := h2; omega))
 replace HOq203 := R_k HOq203 hk (fun x h1 h2 => (by have := HZ3.out; have := HZ6.out; have := HZ151.out; have := HZ151m.out; have := HZ176.out; have := HZ183.out; have := HZ206.out; have := HZ213.out; have := HZ241.out; have := HZ248.out; have := HZ281.out; have := HZ300.out; have := HZ499.out; have := HZ499m.out; have h3_ : Lq203 ≤ x ∧ x < Uq203 := h1; have h4_ : x = g486 := h2; omega))
 replace HOq204 := R_k HOq204 hk (fun x h1 h2 => (by have := HZ3.out; have := HZ6.out; have := HZ151.out; have := HZ151m.out; have := HZ176.out; have := HZ183.out; have := HZ206.out; have := HZ213.out; have := HZ241.out; have := HZ248.out; have := HZ281.out; have := HZ300.out; have := HZ499.out; have := HZ499m.out; have h3_ : Lq204 ≤ x ∧ x < Uq204 := h1; have h4_ : x = g486 := h2; omega))
 replace HOq205 := R_k HOq205 hk (fun x h1 h2 => (by have := HZ3.out; have := HZ6.out; have := HZ151.out; have := HZ151m.out; have := HZ176.out; have := HZ183.out; have := HZ206.out; have := HZ213.out; have := HZ241.out; have := HZ248.out; have := HZ281.out; have := HZ300.out; have := HZ499.out; have := HZ499m.out; have h3_ : Lq205 ≤ x ∧ x < Uq205 := h1; have h4_ : x = g486 := h2; omega))
 replace HOq238 := R_k HOq238 hk (fun x h1 h2 => (by have := HZ3.out; have := HZ6.out; have := HZ151.out; have := HZ151m.out; have := HZ176.out; have := HZ183.out; have := HZ206.out; have := HZ213.out; have := HZ241.out; have := HZ248.out; have := HZ281.out; have := HZ300.out; have := HZ499.out; have := HZ499m.out; have h3_ : Lq238 ≤ x ∧ x < Uq238 := h1; have h4_ : x = g486 := h2; omega))
 replace HOq239 := R_k HOq239 hk (fun x h1 h2 => (by have := HZ3.out; have := HZ6.out; have := HZ151.out; have := HZ151m.out; have := HZ176.out; have := HZ183.out; have := HZ206.out; have := HZ213.out; have := HZ241.out; have := HZ248.out; have := HZ281.out; have := HZ300.out; have := HZ499.out; have := HZ499m.out; have h3_ : Lq239 ≤ x ∧ x < Uq239 := h1; have h4_ : x = g486 := h2; omega))
 replace HOq240 := R_k HOq240 hk (fun x h1 h2 => (by have := HZ3.out; have := HZ6.out; have := HZ151.out; have := HZ151m.out; have := HZ176.out; have := HZ183.out; have := HZ206.out; have := HZ213.out; have := HZ241.out; have := HZ248.out; have := HZ281.out; have := HZ300.out; have := HZ499.out; have := HZ499m.out; have h3_ : Lq240 ≤ x ∧ x < Uq240 := h1; have h4_ : x = g486 := h2; omega))
 replace HOq278 := R_k HOq278 hk (fun x h1 h2 => (by have := HZ3.out; have := HZ6.out; have := HZ151.out; have := HZ151m.out; have := HZ176.out; have := HZ183.out; have := HZ206.out; have := HZ213.out; have := HZ241.out; have := HZ248.out; have := HZ281.out; have := HZ300.out; have := HZ499.out; have := HZ499m.out; have h3_ : Lq278 ≤ x ∧ x < Uq278 := h1; have h4_ : x = g486 := h2; omega))
 replace HOq279 := R_k HOq279 hk (fun x h1 h2 => (by have := HZ3.out; have := HZ6.out; have := HZ151.out; have := HZ151m.out; have := HZ176.out; have := HZ183.out; have := HZ206.out; have := HZ213.out; have := HZ241.out; have := HZ248.out; have := HZ281.out; have := HZ300.out; have := HZ499.out; have := HZ499m.out; have h3_ : Lq279 ≤ x ∧ x < Uq279 := h1; have h4_ : x = g486 := h2; omega))
 replace HOq280 := R_k HOq280 hk (fun x h1 h2 => (by have := HZ3.out; have := HZ6.out; have := HZ151.out; have := HZ151m.out; have := HZ176.out; have := HZ183.out; have := HZ206.out; have := HZ213.out; have := HZ241.out; have := HZ248.out; have := HZ281.out; have := HZ300.out; have := HZ499.out; have := HZ499m.out; have h3_ : Lq280 ≤ x ∧ x < Uq280 := h1; have h4_ : x = g486 := h2; omega))
 replace HOq297 := R_k HOq297 hk (fun x h1 h2 => (by have := HZ3.out; have := HZ6.out; have := HZ151.out; have := HZ151m.out; have := HZ176.out; have := HZ183.out; have := HZ206.out; have := HZ213.out; have := HZ241.out; have := HZ248.out; have := HZ281.out; have := HZ300.out; have := HZ499.out; have := HZ499m.out; have h3_ : Lq297 ≤ x ∧ x < Uq297 := h1; have h4_ : x = g486 := h2; omega))
 replace HOq298 := R_k HOq298 hk (fun x h1 h2 => (by have := HZ3.out; have := HZ6.out; have := HZ151.out; have := HZ151m.out; have := HZ176.out; have := HZ183.out; have := HZ206.out; have := HZ213.out; have := HZ241.out; have := HZ248.out; have := HZ281.out; have := HZ300.out; have := HZ499.out; have := HZ499m.out; have h3_ : Lq298 ≤ x ∧ x < Uq298 := h1; have h4_ : x = g486 := h2; omega))
 replace HOq299 := R_k HOq299 hk (fun x h1 h2 => (by have := HZ3.out; have := HZ6.out; have := HZ151.out; have := HZ151m.out; have := HZ176.out; have := HZ183.out; have := HZ206.out; have := HZ213.out; have := HZ241.out; have := HZ248.out; have := HZ281.out; have := HZ300.out; have := HZ499.out; have := HZ499m.out; have h3_ : Lq299 ≤ x ∧ x < Uq299 := h1; have h4_ : x = g486 := h2; omega))
 replace HOq496 := R_k HOq496 hk (fun x h1 h2 => (by have := HZ3.out; have := HZ6.out; have := HZ151.out; have := HZ151m.out; have := HZ176.out; have := HZ183.out; have := HZ206.out; have := HZ213.out; have := HZ241.out; have := HZ248.out; have := HZ281.out; have := HZ300.out; have := HZ499.out; have := HZ499m.out; have h3_ : L487 ≤ x ∧ x < U488 := h1; have h4_ : x = g486 := h2; omega))
 replace HOq497 := R_k HOq497 hk (fun x h1 h2 => (by have := HZ3.out; have := HZ6.out; have := HZ151.out; have := HZ151m.out; have := HZ176.out; have := HZ183.out; have := HZ206.out; have := HZ213.out; have := HZ241.out; have := HZ248.out; have := HZ281.out; have := HZ300.out; have := HZ499.out; have := HZ499m.out; have h3_ : L489 ≤ x ∧ x < U490 := h1; have h4_ : x = g486 := h2; omega))
 replace HOq498 := R_k HOq498 hk (fun x h1 h2 => (by have := HZ3.out; have := HZ6.out; have := HZ151.out; have := HZ151m.out; have := HZ176.out; have := HZ183.out; have := HZ206.out; have := HZ213.out; have := HZ241.out; have := HZ248.out; have := HZ281.out; have := HZ300.out; have := HZ499.out; have := HZ499m.out; have h3_ : L491 ≤ x ∧ x < U492 := h1; have h4_ : x = g486 := h2; omega))
 replace HKg1 := B_k HKg1 hk (fun h2 => (by have := HZ3.out; have := HZ6.out; have := HZ151.out; have := HZ151m.out; have := HZ176.out; have := HZ183.out; have := HZ206.out; have := HZ213.out; have := HZ241.out; have := HZ248.out; have := HZ281.out; have := HZ300.out; have := HZ499.out; have := HZ499m.out; have h4_ : g1 = g486 := h2; omega))
 replace HKg4 := B_k HKg4 hk (fun h2 => (by have := HZ3.out; have := HZ6.out; have := HZ151.out; have := HZ151m.out; have := HZ176.out; have := HZ183.out; have := HZ206.out; have := HZ213.out; have := HZ241.out; have := HZ248.out; have := HZ281.out; have := HZ300.out; have := HZ499.out; have := HZ499m.out; have h4_ : g4 = g486 := h2; omega))
 replace HKg138 := B_k HKg138 hk (fun h2 => (by have := HZ3.out; have := HZ6.out; have := HZ151.out; have := HZ151m.out; have := HZ176.out; have := HZ183.out; have := HZ206.out; have := HZ213.out; have := HZ241.out; have := HZ248.out; have := HZ281.out; have := HZ300.out; have := HZ499.out; have := HZ499m.out; have h4_ : g138 = g486 := h2; omega))
 replace HKg181 := B_k HKg181 hk (fun h2 => (by have := HZ3.out; have := HZ6.out; have := HZ151.out; have := HZ151m.out; have := HZ176.out; have := HZ183.out; have := HZ206.out; have := HZ213.out; have := HZ241.out; have := HZ248.out; have := HZ281.out; have := HZ300.out; have := HZ499.out; have := HZ499m.out; have h4_ : g181 = g486 := h2; omega))
 replace HKg211 := B_k HKg211 hk (fun h2 => (by have := HZ3.out; have := HZ6.out; have := HZ151.out; have := HZ151m.out; have := HZ176.out; have := HZ183.out; have := HZ206.out; have := HZ213.out; have := HZ241.out; have := HZ248.out; have := HZ281.out; have := HZ300.out; have := HZ499.out; have := HZ499m.out; have h4_ : g211 = g486 := h2; omega))
 replace HKg246 := B_k HKg246 hk (fun h2 => (by have := HZ3.out; have := HZ6.out; have := HZ151.out; have := HZ151m.out; have := HZ176.out; have := HZ183.out; have := HZ206.out; have := HZ213.out; have := HZ241.out; have := HZ248.out; have := HZ281.out; have := HZ300.out; have := HZ499.out; have := HZ499m.out; have h4_ : g246 = g486 := h2; omega))
 replace HS := Z_k HS hk
 clear hw hk hge_
 refine hK.out _ _ ⟨(blk_cell HKg1.out 0).trans rfl, (blk_cell HKg1.out 1).trans rfl, (blk_cell HKg1.out 2).trans rfl, (blk_cell HKg1.out 3).trans rfl, (blk_cell HKg4.out 0).trans rfl, (blk_cell HKg4.out 1).trans rfl, (blk_cell HKg4.out 2).trans rfl, (blk_cell HKg4.out 3).trans rfl⟩ (fun hHeld => ?_)
 clear hK K; refine pu 10 16 ?_
 refine dn ?_
 have hc511 : w502.cell? ⟨g486, 0, none⟩ = some (.int .i64 t383) := (blk_cell HKg486.out 0).trans rfl
 have hc512 : w502.cell? ⟨g486, 1, none⟩ = some (.slice Aq496 t384.length cq496) := (blk_cell HKg486.out 1).trans rfl
 have hc513 : w502.cell? ⟨g486, 2, none⟩ = some (.slice Aq497 t385.length cq497) := (blk_cell HKg486.out 2).trans rfl
 have hc514 : w502.cell? ⟨g486, 3, none⟩ = some (.slice Aq498 t386.length cq498) := (blk_cell HKg486.out 3).trans rfl
 have hc515 : w502.cell? ⟨g138, 0, none⟩ = some (.int .i64 t35) := (blk_cell HKg138.out 0).trans rfl
 have hc516 : w502.cell? ⟨g138, 1, none⟩ = some (.slice Aq148 t36.length cq148) := (blk_cell HKg138.out 1).trans rfl
 have hc517 : w502.cell? ⟨g138, 2, none⟩ = some (.slice Aq149 t37.length cq149) := (blk_cell HKg138.out 2).trans rfl
 have hc518 : w502.cell? ⟨g138, 3, none⟩ = some (.slice Aq150 t38.length cq150) := (blk_cell HKg138.out 3).trans rfl
 go_wp2_with (first | ((with_reducible refine gate_callee (f := 24) rfl ?_); refine goesL_ (some 104) rfl rfl Try.func24 sqk rfl #[.agg #[.int .i64 t383, .slice Aq496 t384.length cq496, .slice Aq497 t385.length cq497, .slice Aq498 t386.length cq498], .agg #[.int .i64 t35, .slice Aq148 t36.length cq148, .slice Aq149 t37.length cq149, .slice Aq150 t38.length cq150]] rfl sqm ?_; (with_reducible refine (laws_eqAllowed.calls k t383 _ _ t384 _ _ t385 _ _ t386 t35 _ _ t36 _ _ t37 _ _ t38 true _ ?side1 ?side2 ?side3 ?side4 ?side5 ?side6 ?side7 ?side8 ?side9 ?side10 ?side11 ?side12 E519.out).mono ?_); (case side1 => exact (Kd.R_reads' HOq496.out).2.2); (case side2 => exact (Kd.R_reads' HOq496.out).2.1); (case side3 => exact (Kd.R_reads' HOq497.out).2.2); (case side4 => exact (Kd.R_reads' HOq497.out).2.1); (case side5 => exact (Kd.R_reads' HOq498.out).2.2); (case side6 => exact (Kd.R_reads' HOq498.out).2.1); (case side7 => exact (Kd.R_reads' HOq148.out).2.2); (case side8 => exact (Kd.R_reads' HOq148.out).2.1); (case side9 => exact (Kd.R_reads' HOq149.out).2.2); (case side10 => exact (Kd.R_reads' HOq149.out).2.1); (case side11 => exact (Kd.R_reads' HOq150.out).2.2); (case side12 => exact (Kd.R_reads' HOq150.out).2.1); rintro e w521 ⟨rfl, hb⟩; refine ⟨_, rfl, ?_⟩; (try clear hc511 hc512 hc513 hc514 hc515 hc516 hc517 hc518); replace HOq148 := R_b HOq148 hb; replace HOq149 := R_b HOq149 hb; replace HOq150 := R_b HOq150 hb; replace HOq173 := R_b HOq173 hb; replace HOq174 := R_b HOq174 hb; replace HOq175 := R_b HOq175 hb; replace HOq203 := R_b HOq203 hb; replace HOq204 := R_b HOq204 hb; replace HOq205 := R_b HOq205 hb; replace HOq238 := R_b HOq238 hb; replace HOq239 := R_b HOq239 hb; replace HOq240 := R_b HOq240 hb; replace HOq278 := R_b HOq278 hb; replace HOq279 := R_b HOq279 hb; replace HOq280 := R_b HOq280 hb; replace HOq297 := R_b HOq297 hb; replace HOq298 := R_b HOq298 hb; replace HOq299 := R_b HOq299 hb; replace HOq496 := R_b HOq496 hb; replace HOq497 := R_b HOq497 hb; replace HOq498 := R_b HOq498 hb; replace HKg1 := B_b HKg1 hb; replace HKg4 := B_b HKg4 hb; replace HKg138 := B_b HKg138 hb; replace HKg181 := B_b HKg181 hb; replace HKg211 := B_b HKg211 hb; replace HKg246 := B_b HKg246 hb; replace HKg486 := B_b HKg486 hb; replace HS := Z_b HS hb; replace HB := H_b HB hb; clear hb; have hc523 : w521.cell? ⟨g246, 0, none⟩ = some (.int .i64 t232) := (blk_cell HKg246.out 0).trans rfl; have hc524 : w521.cell? ⟨g246, 1, none⟩ = some (.slice Aq238 t233.length cq238) := (blk_cell HKg246.out 1).trans rfl; have hc525 : w521.cell? ⟨g246, 2, none⟩ = some (.slice Aq239 t234.length cq239) := (blk_cell HKg246.out 2).trans rfl; have hc526 : w521.cell? ⟨g246, 3, none⟩ = some (.slice Aq240 t235.length cq240) := (blk_cell HKg246.out 3).trans rfl) | ((with_reducible refine gate_callee (f := 42) rfl ?_); refine goesL_ (some 113) rfl rfl Try.func42 sqk rfl #[.agg #[.int .i64 t232, .slice Aq238 t233.length cq238, .slice Aq239 t234.length cq239, .slice Aq240 t235.length cq240], .int .i64 1] rfl sqm ?_; rw [HLN359.out, HLN360.out, HLN361.out]; (with_reducible refine (laws_heldAllowed.calls k t232 _ _ t355 _ _ t356 _ _ t357 1 t354 _ ?side1 ?side2 ?side3 ?side4 ?side5 ?side6 E528.out).mono ?_); (case side1 => exact (Kd.R_reads' HOq238.out).2.2); (case side2 => (have h1_ := (Kd.R_reads' HOq238.out).2.1; have h2_ := HLN359.out; omega)); (case side3 => exact (Kd.R_reads' HOq239.out).2.2); (case side4 => (have h1_ := (Kd.R_reads' HOq239.out).2.1; have h2_ := HLN360.out; omega)); (case side5 => exact (Kd.R_reads' HOq240.out).2.2); (case side6 => (have h1_ := (Kd.R_reads' HOq240.out).2.1; have h2_ := HLN361.out; omega)); rintro e w530 ⟨rfl, hb⟩; refine ⟨_, rfl, ?_⟩; (try rw [← HLN359.out, ← HLN360.out, ← HLN361.out]); (try clear hc523 hc524 hc525 hc526); replace HOq148 := R_b HOq148 hb; replace HOq149 := R_b HOq149 hb; replace HOq150 := R_b HOq150 hb; replace HOq173 := R_b HOq173 hb; replace HOq174 := R_b HOq174 hb; replace HOq175 := R_b HOq175 hb; replace HOq203 := R_b HOq203 hb; replace HOq204 := R_b HOq204 hb; replace HOq205 := R_b HOq205 hb; replace HOq238 := R_b HOq238 hb; replace HOq239 := R_b HOq239 hb; replace HOq240 := R_b HOq240 hb; replace HOq278 := R_b HOq278 hb; replace HOq279 := R_b HOq279 hb; replace HOq280 := R_b HOq280 hb; replace HOq297 := R_b HOq297 hb; replace HOq298 := R_b HOq298 hb; replace HOq299 := R_b HOq299 hb; replace HOq496 := R_b HOq496 hb; replace HOq497 := R_b HOq497 hb; replace HOq498 := R_b HOq498 hb; replace HKg1 := B_b HKg1 hb; replace HKg4 := B_b HKg4 hb; replace HKg138 := B_b HKg138 hb; replace HKg181 := B_b HKg181 hb; replace HKg211 := B_b HKg211 hb; replace HKg246 := B_b HKg246 hb; replace HKg486 := B_b HKg486 hb; replace HS := Z_b HS hb; replace HB := H_b HB hb; clear hb))
 go_ret
 exact ⟨rfl, HB.out⟩
def wf30 (x : S30) : Prop := (Lit.int .i64 x.f0).wf = true ∧ (x.f1.length ≤ maxLen ∧ ∀ y4 ∈ x.f1, (Lit.int .i64 y4).wf = true) ∧ (x.f2.length ≤ maxLen ∧ ∀ y4 ∈ x.f2, (Lit.int .i64 y4).wf = true) ∧ (x.f3.length ≤ maxLen ∧ ∀ y4 ∈ x.f3, (Lit.int .i64 y4).wf = true)
/-- THE ONE PURE STATEMENT of laws_FnExactReplaceAllowed. -/
def laws_FnExactReplaceAllowed.Pure : Prop := ∀ (a0_0 : Int) (l0_1 : List Int) (l0_2 : List Int) (l0_3 : List Int) (a1_0 : Int) (l1_1 : List Int) (l1_2 : List Int) (l1_3 : List Int), ((Lit.int .i64 a0_0).wf = true) → ((l0_1.length ≤ maxLen ∧ ∀ y4 ∈ l0_1, (Lit.int .i64 y4).wf = true)) → ((l0_2.length ≤ maxLen ∧ ∀ y4 ∈ l0_2, (Lit.int .i64 y4).wf = true)) → ((l0_3.length ≤ maxLen ∧ ∀ y4 ∈ l0_3, (Lit.int .i64 y4).wf = true)) → ((Lit.int .i64 a1_0).wf = true) → ((l1_1.length ≤ maxLen ∧ ∀ y4 ∈ l1_1, (Lit.int .i64 y4).wf = true)) → ((l1_2.length ≤ maxLen ∧ ∀ y4 ∈ l1_2, (Lit.int .i64 y4).wf = true)) → ((l1_3.length ≤ maxLen ∧ ∀ y4 ∈ l1_3, (Lit.int .i64 y4).wf = true)) → ∃ k, laws_FnExactReplaceAllowed.f k a0_0 l0_1 l0_2 l0_3 a1_0 l1_1 l1_2 l1_3 = some true

end Go.Proofs.Ytlmhemcpkmjkiaa.XFnExactReplaceAllowed
