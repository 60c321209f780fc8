/- Written by this session's own program (wip/xprint, which runs over the kit's print): what the functions that the law reaches come to, each proved; and the law's row. Conditions: none. -/
import Derived.Test.YtlcmjdkbeckdnaaUFnAgreementx0
import Derived.Test.YtlcmjdkbeckdnaaUFnAgreementx1
import Derived.Test.YtlcmjdkbeckdnaaUFnAgreementx2
import Derived.Test.YtlcmjdkbeckdnaaUFnAgreementx7
namespace Go.Proofs.Ytlcmjdkbeckdnaa.XFnAgreement
open Go.RowKit Go.Proofs.YtlcmjdkbeckdnaaW.PrintWords Go.Proofs.YtlcmjdkbeckdnaaW.PrintLast Go.Proofs.YtlcmjdkbeckdnaaW.PrintMore
attribute [local go_sem] max2_int min2_int max_two min_two max_three min_three max_four min_four   -- for this text's walks alone
set_option linter.unusedVariables false
set_option linter.unusedSimpArgs false

/-! ### spec_DrawFindFact: function 87 -/
def spec_DrawFindFact.j0 : Nat → List (S54) → Bool → List Int → Int → Int → Int → Int → Int → Int → Int → Int → Option ((List (S54)) × Int × Int × Int × Int × Int)
  | 0, _, _, _, _, _, _, _, _, _, _, _ => none
  | k + 1, x9, x25, x267000, x267001, x267002, x281000, x281001, x281002, x281003, x281004, x281005 => if x25 = true then ((spec_l1Below.f x267000 x267001 x267002 (x9.length : Int)).bind fun bt284 => (if 0 ≤ bt284.1 then (if bt284.1 < (x9.length : Int) then ((spec_l1Below.f x267000 bt284.2.1 bt284.2.2 8).bind fun bt288 => ((spec_l1Int.f x267000 bt288.2.1 bt288.2.2 (([0, 3, 20, (-1)] : List Int))).bind fun bt294 => (some (x9, (rd_T54 x9 bt284.1).f0, (rd_T54 x9 bt284.1).f1, (rd_T54 x9 bt284.1).f2, wrap64 (((rd_T54 x9 bt284.1).f4) + bt288.1), bt294.1)))) else (none)) else (none))) else ((spec_l1Below.f x267000 x267001 x267002 8).bind fun bt297 => ((spec_l1Int.f x267000 bt297.2.1 bt297.2.2 (([0, 3, 20, (-1)] : List Int))).bind fun bt303 => (some (x9, x281000, x281001, x281002, wrap64 (x281004 + bt297.1), bt303.1))))
def spec_DrawFindFact.f (k : Nat) (l0 : List Int) : Option ((List (S54)) × Int × Int × Int × Int × Int) := (spec_l1New.f k l0).bind fun bt263 => ((spec_l7Store.f k bt263.1 bt263.2.1 bt263.2.2).bind fun bt267 => ((spec_l6Fact.f bt263.1 bt267.2.1 bt267.2.2).bind fun bt272 => (if (bt267.1.length : Int) > 0 then ((spec_l1Once.f bt263.1 bt272.2.2.2.2.2.2.1 bt272.2.2.2.2.2.2.2 3).bind fun bt281 => (spec_DrawFindFact.j0 k bt267.1 (!bt281.1) bt263.1 bt281.2.1 bt281.2.2 bt272.1 bt272.2.1 bt272.2.2.1 bt272.2.2.2.1 bt272.2.2.2.2.1 bt272.2.2.2.2.2.1)) else (spec_DrawFindFact.j0 k bt267.1 false bt263.1 bt272.2.2.2.2.2.2.1 bt272.2.2.2.2.2.2.2 bt272.1 bt272.2.1 bt272.2.2.1 bt272.2.2.2.1 bt272.2.2.2.2.1 bt272.2.2.2.2.2.1))))
def spec_DrawFindFact.T7 : Bool × List (List Nat × List Nat) := (true, [([], []), ([], []), ([1], [1]), ([], []), ([3], [3]), ([], []), ([5], [5]), ([], []), ([], []), ([], []), ([8, 9], [8, 9]), ([0, 10, 0], [0]), ([2, 11, 0, 1, 2, 11], [2]), ([4, 12, 0, 1, 2, 3, 4, 11, 12], [4]), ([6, 13, 0, 1, 2, 3, 4, 5, 6, 11, 12, 13], [6]), ([7, 14, 0, 1, 2, 3, 4, 5, 6, 7, 11, 12, 13, 14], [7]), ([10, 15, 0, 1, 2, 3, 4, 5, 6, 7, 8, 9, 10, 11, 12, 13, 14, 15], [10])])
def spec_DrawFindFact.B7 : List Nat := [0, 0, 2, 0, 8, 0, 32, 0, 0, 0, 768, 1793, 3847, 7967, 16255, 32767, 65535]
theorem spec_DrawFindFact.tab7 : rtab .any (opsOf Try.f87 7) = spec_DrawFindFact.T7 := by kernel_rfl
theorem spec_DrawFindFact.bits7 : waitsOk spec_DrawFindFact.T7.2 spec_DrawFindFact.B7 = true := by kernel_rfl
theorem pB87_ {P Q : Prop} (h : P) (g : P → Q := by intro h_; (with_reducible repeat (first | refine blk_drewN ?_ _ | refine blk_drew ?_ | refine blk_alloc ?_ _)); exact h_) : Q := g h
theorem pR87_ {P Q : Prop} (h : P) (g : P → Q := by intro h_; (with_reducible repeat (first | apply Kd.R_alloc | apply Kd.R_drewN | apply Kd.R_drew)); exact h_) : Q := g h
theorem z87_0 {Q : Prop} (g : Q := by (try simp only [List.map_toArray, List.map_cons, List.map_nil]); first | done | rfl | (simp only [List.length_drop, List.length_take]; rfl)) : Q := g
theorem z87_1 {Q : Prop} (g : Q := by repeat (first | (with_reducible first | exact HB.out | apply bA_ | apply bN_ | apply bD_ | refine bS_ ?_ (IsS87.ge HI266.out) | refine bS_ ?_ GE280.out) | exact HB.out)) : Q := g
theorem z87_2 {Q : Prop} (g : Q := by repeat (first | (with_reducible first | exact HB.out | apply bA_ | apply bN_ | apply bD_ | refine bS_ ?_ (IsS87.ge HI266.out)) | exact HB.out)) : Q := g
theorem z87_3 {Q : Prop} (g : Q := by kernel_rfl) : Q := g
theorem z87_4 {Q : Prop} (g : Q := by repeat (first | (with_reducible first | exact HI266.out | apply IsS87.alloc | apply IsS87.drewN | apply IsS87.drew | apply IsS87.set_1 | apply IsS87.set_2 | refine IsS87.far ?_ NB266_280.out _) | exact HI266.out)) : Q := g
set_option maxHeartbeats 8000000 in
set_option maxRecDepth 100000 in
theorem spec_DrawFindFact.calls (k : Nat) (A0 : Option Addr) (c0 : Nat) (l0 : List Int) (r1 : List (S54)) (r2 : Int) (r3 : Int) (r4 : Int) (r5 : Int) (r6 : Int) (w : World) (hr0 : Kd.C (Kd.int .u8) w A0 l0.length l0) (hc0 : l0.length ≤ c0) (h : spec_DrawFindFact.f k l0 = some (r1, r2, r3, r4, r5, r6)) :
    Calls Try.prog 87 #[.slice A0 l0.length c0] w fun e w' => ∃ v0_ : Value, e = .returned (.tuple #[v0_, .int .i64 r2, .int .i64 r3, .int .i64 r4, .int .i64 r5, .int .i64 r6]) ∧ Kd.R k54 54 w' w.heap.size (fun _ => True) v0_ r1 ∧ Below w.heap.size w w' := by
  have hu54 := Try.underlying54
  have HR0 := Aside0.mk hr0
  have HC0 := Aside0.mk hc0
  clear hr0 hc0
  have HB := Aside0.mk (Below.refl w.heap.size w)
  have H : ((spec_l1New.f k l0).bind fun bt263 => ((spec_l7Store.f k bt263.1 bt263.2.1 bt263.2.2).bind fun bt267 => ((spec_l6Fact.f bt263.1 bt267.2.1 bt267.2.2).bind fun bt272 => (if (bt267.1.length : Int) > 0 then ((spec_l1Once.f bt263.1 bt272.2.2.2.2.2.2.1 bt272.2.2.2.2.2.2.2 3).bind fun bt281 => (spec_DrawFindFact.j0 k bt267.1 (!bt281.1) bt263.1 bt281.2.1 bt281.2.2 bt272.1 bt272.2.1 bt272.2.2.1 bt272.2.2.2.1 bt272.2.2.2.2.1 bt272.2.2.2.2.2.1)) else (spec_DrawFindFact.j0 k bt267.1 false bt263.1 bt272.2.2.2.2.2.2.1 bt272.2.2.2.2.2.2.2 bt272.1 bt272.2.1 bt272.2.2.1 bt272.2.2.2.1 bt272.2.2.2.2.1 bt272.2.2.2.2.2.1))))) = some (r1, r2, r3, r4, r5, r6) := h
  clear h
  replace H := Option.bind_eq_some_iff.mp H
  obtain ⟨⟨t263, t264, t265⟩, A20, H⟩ := H
  replace H : ((spec_l7Store.f k t263 t264 t265).bind fun bt267 => ((spec_l6Fact.f t263 bt267.2.1 bt267.2.2).bind fun bt272 => (if (bt267.1.length : Int) > 0 then ((spec_l1Once.f t263 bt272.2.2.2.2.2.2.1 bt272.2.2.2.2.2.2.2 3).bind fun bt281 => (spec_DrawFindFact.j0 k bt267.1 (!bt281.1) t263 bt281.2.1 bt281.2.2 bt272.1 bt272.2.1 bt272.2.2.1 bt272.2.2.2.1 bt272.2.2.2.2.1 bt272.2.2.2.2.2.1)) else (spec_DrawFindFact.j0 k bt267.1 false t263 bt272.2.2.2.2.2.2.1 bt272.2.2.2.2.2.2.2 bt272.1 bt272.2.1 bt272.2.2.1 bt272.2.2.2.1 bt272.2.2.2.2.1 bt272.2.2.2.2.2.1)))) = some (r1, r2, r3, r4, r5, r6) := H
  have A2 := Aside0.mk A20
  clear A20
  replace H := Option.bind_eq_some_iff.mp H
  obtain ⟨⟨t267, t270, t271⟩, A30, H⟩ := H
  replace H : ((spec_l6Fact.f t263 t270 t271).bind fun bt272 => (if (t267.length : Int) > 0 then ((spec_l1Once.f t263 bt272.2.2.2.2.2.2.1 bt272.2.2.2.2.2.2.2 3).bind fun bt281 => (spec_DrawFindFact.j0 k t267 (!bt281.1) t263 bt281.2.1 bt281.2.2 bt272.1 bt272.2.1 bt272.2.2.1 bt272.2.2.2.1 bt272.2.2.2.2.1 bt272.2.2.2.2.2.1)) else (spec_DrawFindFact.j0 k t267 false t263 bt272.2.2.2.2.2.2.1 bt272.2.2.2.2.2.2.2 bt272.1 bt272.2.1 bt272.2.2.1 bt272.2.2.2.1 bt272.2.2.2.2.1 bt272.2.2.2.2.2.1))) = some (r1, r2, r3, r4, r5, r6) := H
  have A3 := Aside0.mk A30
  clear A30
  replace H := Option.bind_eq_some_iff.mp H
  obtain ⟨⟨t272, t273, t274, t275, t276, t277, t278, t279⟩, A40, H⟩ := H
  replace H : (if (t267.length : Int) > 0 then ((spec_l1Once.f t263 t278 t279 3).bind fun bt281 => (spec_DrawFindFact.j0 k t267 (!bt281.1) t263 bt281.2.1 bt281.2.2 t272 t273 t274 t275 t276 t277)) else (spec_DrawFindFact.j0 k t267 false t263 t278 t279 t272 t273 t274 t275 t276 t277)) = some (r1, r2, r3, r4, r5, r6) := H
  have A4 := Aside0.mk A40
  clear A40
  have HC5 := Aside0.mk H
  clear H
  go_enter Try.func87, Try.ntmps87
  go_upto_region 4 with (first | ((with_reducible refine gate_callee (f := 71) rfl ?_); refine goesL_ (some 13) rfl rfl Try.func71 z87_3 rfl #[.slice A0 l0.length c0] rfl z87_0 ?_; (with_reducible refine (spec_l1New.calls k _ _ l0 t263 t264 t265 w _ ?side1 ?side2 ?side3 A2.out).mono ?_); (case side1 => repeat (first | (with_reducible first | exact HB.out | apply bA_ | apply bN_ | apply bD_) | exact HB.out)); (case side2 => exact HR0.out); (case side3 => exact HC0.out); rintro e w6 ⟨g266, rfl, hi, hb, hb2⟩; refine ⟨_, rfl, ?_⟩; have n0_ := Aside0.mk (hb); have n1_ := Aside0.mk (hi); clear HB; have HB := n0_; have HI266 := n1_; clear n0_ n1_; (try clear hb); (try clear hb2); (try clear hk); (try clear hi)) | ((with_reducible refine gate_callee (f := 105) rfl ?_); refine goesL_ (some 15) rfl rfl Try.func105 z87_3 rfl #[.pointer (some ⟨g266, 0, none⟩)] rfl z87_0 ?_; (with_reducible refine (spec_l7Store.calls k g266 t263 t264 t265 t267 t270 t271 w _ ?side1 ?side2 A3.out).mono ?_); (case side1 => repeat (first | (with_reducible first | exact HI266.out | apply IsS87.alloc | apply IsS87.drewN | apply IsS87.drew | apply IsS87.set_1 | apply IsS87.set_2) | exact HI266.out)); (case side2 => repeat (first | (with_reducible first | exact HB.out | apply bA_ | apply bN_ | apply bD_ | refine bS_ ?_ (IsS87.ge HI266.out)) | exact HB.out)); rintro e w7 ⟨v268, rfl, ho0, hi, hb, hk⟩; refine ⟨_, rfl, ?_⟩; have n0_ := Aside0.mk (Kd.R_lower ho0 (below_size z87_2)); have n1_ := Aside0.mk (hb); have n2_ := Aside0.mk (hi); clear HB; clear HI266; have HO269 := n0_; have HB := n1_; have HI266 := n2_; clear n0_ n1_ n2_; (try clear hb); (try clear hb2); (try clear hk); (try clear hi); (try clear ho0)) | ((with_reducible refine gate_callee (f := 101) rfl ?_); refine goesL_ (some 17) rfl rfl Try.func101 z87_3 rfl #[.pointer (some ⟨g266, 0, none⟩)] rfl z87_0 ?_; (with_reducible refine (spec_l6Fact.calls g266 t263 t270 t271 t272 t273 t274 t275 t276 t277 t278 t279 w _ ?side1 ?side2 A4.out).mono ?_); (case side1 => repeat (first | (with_reducible first | exact HI266.out | apply IsS87.alloc | apply IsS87.drewN | apply IsS87.drew | apply IsS87.set_1 | apply IsS87.set_2) | exact HI266.out)); (case side2 => repeat (first | (with_reducible first | exact HB.out | apply bA_ | apply bN_ | apply bD_ | refine bS_ ?_ (IsS87.ge HI266.out)) | exact HB.out)); rintro e w8 ⟨rfl, hi, hb, hk⟩; refine ⟨_, rfl, ?_⟩; have n0_ := Aside0.mk (Kd.R_mono (Kd.R_keep (IsS87.apart (show IsS87 w _ g266 t263 t270 t271 from by repeat (first | (with_reducible first | exact HI266.out | apply IsS87.alloc | apply IsS87.drewN | apply IsS87.drew | apply IsS87.set_1 | apply IsS87.set_2) | exact HI266.out)) (pR87_ HO269.out) (by decide)) hk (fun _ h => h.2)) (fun _ h => h.1)); have n1_ := Aside0.mk (hb); have n2_ := Aside0.mk (hi); clear HO269; clear HB; clear HI266; have HO269 := n0_; have HB := n1_; have HI266 := n2_; clear n0_ n1_ n2_; (try clear hb); (try clear hb2); (try clear hk); (try clear hi)) | ((with_reducible refine gate_dst (N := 10) rfl ?_); refine box_event ?hg (N := 10) ?hd (cs := #[.int .i64 0, .int .i64 0, .int .i64 0, .int .i64 0, .int .i64 0, .int .i64 0]) (t := 54) ?hr ?_; (case hd => rfl); (case hg => rfl); (case hr => first | (go_simp; done) | (go_simp; rfl)); intro gb280 hg w9 hbox hb; have n0_ := Aside0.mk (Kd.R_below (Kd.R_elderB (pR87_ HO269.out) gb280 (Nat.le_of_eq hg.symm)) hb); have n1_ := Aside0.mk (IsS87.below (by repeat (first | (with_reducible first | exact HI266.out | apply IsS87.alloc | apply IsS87.drewN | apply IsS87.drew | apply IsS87.set_1 | apply IsS87.set_2) | exact HI266.out)) hb); have n2_ := Aside0.mk (below_step z87_2 hb); have n3_ := Aside0.mk (hbox); have n4_ := Aside0.mk ((by rw [hg]; exact (below_size z87_2) : w.heap.size ≤ gb280)); have n5_ := Aside0.mk ((by rw [hg]; exact (below_size z87_2) : w.heap.size ≤ gb280)); have n6_ := Aside0.mk ((by rw [hg]; exact Nat.ne_of_lt (IsS87.lt (show IsS87 w _ g266 t263 t278 t279 from by repeat (first | (with_reducible first | exact HI266.out | apply IsS87.alloc | apply IsS87.drewN | apply IsS87.drew | apply IsS87.set_1 | apply IsS87.set_2) | exact HI266.out))) : g266 ≠ gb280)); have n7_ := Aside0.mk ((by rw [hg]; exact Nat.ne_of_gt (IsS87.lt (show IsS87 w _ g266 t263 t278 t279 from by repeat (first | (with_reducible first | exact HI266.out | apply IsS87.alloc | apply IsS87.drewN | apply IsS87.drew | apply IsS87.set_1 | apply IsS87.set_2) | exact HI266.out))) : gb280 ≠ g266)); clear HO269; clear HI266; clear HB; have HO269 := n0_; have HI266 := n1_; have HB := n2_; have BK280 := n3_; have GW280 := n4_; have GE280 := n5_; have NB266_280 := n6_; have NB280_266 := n7_; clear n0_ n1_ n2_ n3_ n4_ n5_ n6_ n7_; clear hb hbox hg; have hnb10 := NB280_266.out; have hnc10 := NB266_280.out; have hcz11_0 : w9.cell? ⟨gb280, 0, none⟩ = some (.int .i64 0) := (bC_ BK280.out 0).trans rfl; have hcz11_1 : w9.cell? ⟨gb280, 1, none⟩ = some (.int .i64 0) := (bC_ BK280.out 1).trans rfl; have hcz11_2 : w9.cell? ⟨gb280, 2, none⟩ = some (.int .i64 0) := (bC_ BK280.out 2).trans rfl; have hcz11_3 : w9.cell? ⟨gb280, 3, none⟩ = some (.int .i64 0) := (bC_ BK280.out 3).trans rfl; have hcz11_4 : w9.cell? ⟨gb280, 4, none⟩ = some (.int .i64 0) := (bC_ BK280.out 4).trans rfl; have hcz11_5 : w9.cell? ⟨gb280, 5, none⟩ = some (.int .i64 0) := (bC_ BK280.out 5).trans rfl; have hfz11_0 := bF_ BK280.out 0; have hfz11_1 := bF_ BK280.out 1; have hfz11_2 := bF_ BK280.out 2; have hfz11_3 := bF_ BK280.out 3; have hfz11_4 := bF_ BK280.out 4; have hfz11_5 := bF_ BK280.out 5))
  (try simp only [Act.put, List.setIfInBounds_toArray, List.set_cons_zero, List.set_cons_succ])
  go_cut [25] (fun v25 wc => ∃ (kq : Nat) (x25_4 : Bool) (x267001_4 : Int) (x267002_4 : Int), v25 = .bool x25_4 ∧ Aside0 (spec_DrawFindFact.j0 kq t267 x25_4 t263 x267001_4 x267002_4 t272 t273 t274 t275 t276 t277 = some (r1, r2, r3, r4, r5, r6)) ∧ Aside0 (kq ≤ k) ∧ Aside0 (Kd.R k54 54 wc w.heap.size (fun k_ => k_ ≠ gb280) v268 t267) ∧ Aside0 (wc.heap[gb280]? = some (.cells #[.int .i64 t272, .int .i64 t273, .int .i64 t274, .int .i64 t275, .int .i64 t276, .int .i64 t277] 54 (0, 0))) ∧ Aside0 (IsS87 w wc g266 t263 x267001_4 x267002_4) ∧ Aside0 (Below w.heap.size w wc))
  case first =>
    have H := HC5.out
    clear HC5
    by_cases c12 : (t267.length : Int) > 0
    · rw [if_pos c12] at H
      have c12b0 : decide (0 < (t267.length : Int)) = true := decide_eq_true c12
      have c12b1 : decide (0 < t267.length) = true := decide_eq_true (by omega)
      clear c12
      (first | rw [c12b0] | (simp only [i64_w, i32_w]; rw [c12b0]) | skip)
      replace H := Option.bind_eq_some_iff.mp H
      obtain ⟨⟨t281, t282, t283⟩, A130, H⟩ := H
      replace H : (spec_DrawFindFact.j0 k t267 (!t281) t263 t282 t283 t272 t273 t274 t275 t276 t277) = some (r1, r2, r3, r4, r5, r6) := H
      have A13 := Aside0.mk A130
      clear A130
      have H' := Aside0.mk H
      clear H
      obtain ⟨Ao14, co14, eo14⟩ := Kd.R_slice HO269.out
      subst eo14
      go_wp2_with (first | (go_at_call 73; (with_reducible refine (spec_l1Once.calls g266 t263 t278 t279 3 t281 t282 t283 w _ ?side1 ?side2 A13.out).mono ?_); (case side1 => repeat (first | (with_reducible first | exact HI266.out | apply IsS87.alloc | apply IsS87.drewN | apply IsS87.drew | apply IsS87.set_1 | apply IsS87.set_2 | refine IsS87.far ?_ NB266_280.out _) | exact HI266.out)); (case side2 => repeat (first | (with_reducible first | exact HB.out | apply bA_ | apply bN_ | apply bD_ | refine bS_ ?_ (IsS87.ge HI266.out) | refine bS_ ?_ GE280.out) | exact HB.out)); rintro e w15 ⟨rfl, hi, hb, hk⟩; have n0_ := Aside0.mk (Kd.R_mono (Kd.R_keep (IsS87.apart (show IsS87 w _ g266 t263 t278 t279 from by repeat (first | (with_reducible first | exact HI266.out | apply IsS87.alloc | apply IsS87.drewN | apply IsS87.drew | apply IsS87.set_1 | apply IsS87.set_2 | refine IsS87.far ?_ NB266_280.out _) | exact HI266.out)) (by (with_reducible repeat (first | apply Kd.R_alloc | apply Kd.R_drewN | apply Kd.R_drew)); exact (Kd.R_mono (Kd.R_far (p := ⟨gb280, 5, none⟩) (Kd.R_far (p := ⟨gb280, 4, none⟩) (Kd.R_far (p := ⟨gb280, 3, none⟩) (Kd.R_far (p := ⟨gb280, 2, none⟩) (Kd.R_far (p := ⟨gb280, 1, none⟩) (Kd.R_far (p := ⟨gb280, 0, none⟩) (Kd.R_mono HO269.out (fun k_ hk => (⟨hk, hk.2⟩ : _ ∧ k_ ≠ gb280))) (fun _ hk => hk.2) (.int .i64 t272)) (fun _ hk => hk.2) (.int .i64 t273)) (fun _ hk => hk.2) (.int .i64 t274)) (fun _ hk => hk.2) (.int .i64 t275)) (fun _ hk => hk.2) (.int .i64 t276)) (fun _ hk => hk.2) (.int .i64 t277)) (fun _ h_ => h_.1))) (by decide)) hk (fun _ h => h.2)) (fun _ h => h.1)); have n1_ := Aside0.mk (KeepBut.blk hk (g' := gb280) (o := .cells #[.int .i64 t272, .int .i64 t273, .int .i64 t274, .int .i64 t275, .int .i64 t276, .int .i64 t277] 54 (0, 0)) (by (with_reducible repeat (first | refine blk_drewN ?_ _ | refine blk_drew ?_ | refine blk_alloc ?_ _)); refine blk_put (cs := #[.int .i64 t272, .int .i64 t273, .int .i64 t274, .int .i64 t275, .int .i64 t276, .int .i64 0]) ?_ 5 _ rfl; (with_reducible repeat (first | refine blk_drewN ?_ _ | refine blk_drew ?_ | refine blk_alloc ?_ _)); refine blk_put (cs := #[.int .i64 t272, .int .i64 t273, .int .i64 t274, .int .i64 t275, .int .i64 0, .int .i64 0]) ?_ 4 _ rfl; (with_reducible repeat (first | refine blk_drewN ?_ _ | refine blk_drew ?_ | refine blk_alloc ?_ _)); refine blk_put (cs := #[.int .i64 t272, .int .i64 t273, .int .i64 t274, .int .i64 0, .int .i64 0, .int .i64 0]) ?_ 3 _ rfl; (with_reducible repeat (first | refine blk_drewN ?_ _ | refine blk_drew ?_ | refine blk_alloc ?_ _)); refine blk_put (cs := #[.int .i64 t272, .int .i64 t273, .int .i64 0, .int .i64 0, .int .i64 0, .int .i64 0]) ?_ 2 _ rfl; (with_reducible repeat (first | refine blk_drewN ?_ _ | refine blk_drew ?_ | refine blk_alloc ?_ _)); refine blk_put (cs := #[.int .i64 t272, .int .i64 0, .int .i64 0, .int .i64 0, .int .i64 0, .int .i64 0]) ?_ 1 _ rfl; (with_reducible repeat (first | refine blk_drewN ?_ _ | refine blk_drew ?_ | refine blk_alloc ?_ _)); refine blk_put (cs := #[.int .i64 0, .int .i64 0, .int .i64 0, .int .i64 0, .int .i64 0, .int .i64 0]) ?_ 0 _ rfl; (with_reducible repeat (first | refine blk_drewN ?_ _ | refine blk_drew ?_ | refine blk_alloc ?_ _)); exact BK280.out) NB280_266.out (by simp)); have n2_ := Aside0.mk (hb); have n3_ := Aside0.mk (hi); clear HO269; clear BK280; clear HB; clear HI266; have HO269 := n0_; have BK280 := n1_; have HB := n2_; have HI266 := n3_; clear n0_ n1_ n2_ n3_; (try clear hb); (try clear hb2); (try clear hk); (try clear hi)))
      go_meet
      case rel => exact ⟨_, (!t281), (t282), (t283), (by first | rfl | (simp; done) | (simp [*]; done)), H', ⟨by first | omega | exact Nat.le_refl _⟩, ⟨by (with_reducible repeat (first | apply Kd.R_alloc | apply Kd.R_drewN | apply Kd.R_drew)); exact Kd.R_mono HO269.out (fun _ hk => hk.2)⟩, ⟨by (with_reducible repeat (first | refine blk_drewN ?_ _ | refine blk_drew ?_ | refine blk_alloc ?_ _)); exact BK280.out⟩, ⟨by repeat (first | (with_reducible first | exact HI266.out | apply IsS87.alloc | apply IsS87.drewN | apply IsS87.drew | apply IsS87.set_1 | apply IsS87.set_2 | refine IsS87.far ?_ NB266_280.out _) | exact HI266.out)⟩, ⟨by repeat (first | (with_reducible first | exact HB.out | apply bA_ | apply bN_ | apply bD_ | refine bS_ ?_ (IsS87.ge HI266.out) | refine bS_ ?_ GE280.out) | exact HB.out)⟩⟩
    · rw [if_neg c12] at H
      have c12b0 : decide (0 < (t267.length : Int)) = false := decide_eq_false c12
      have c12b1 : decide (0 < t267.length) = false := decide_eq_false (by omega)
      clear c12
      (first | rw [c12b0] | (simp only [i64_w, i32_w]; rw [c12b0]) | skip)
      have H' := Aside0.mk H
      clear H
      obtain ⟨Ao16, co16, eo16⟩ := Kd.R_slice HO269.out
      subst eo16
      go_wp2
      go_meet
      case rel => exact ⟨_, (false), (t278), (t279), (by first | rfl | (simp; done) | (simp [*]; done)), H', ⟨by first | omega | exact Nat.le_refl _⟩, ⟨by (with_reducible repeat (first | apply Kd.R_alloc | apply Kd.R_drewN | apply Kd.R_drew)); exact Kd.R_mono (Kd.R_far (p := ⟨gb280, 5, none⟩) (Kd.R_far (p := ⟨gb280, 4, none⟩) (Kd.R_far (p := ⟨gb280, 3, none⟩) (Kd.R_far (p := ⟨gb280, 2, none⟩) (Kd.R_far (p := ⟨gb280, 1, none⟩) (Kd.R_far (p := ⟨gb280, 0, none⟩) (Kd.R_mono HO269.out (fun k_ hk => (⟨hk, hk.2⟩ : _ ∧ k_ ≠ gb280))) (fun _ hk => hk.2) (.int .i64 t272)) (fun _ hk => hk.2) (.int .i64 t273)) (fun _ hk => hk.2) (.int .i64 t274)) (fun _ hk => hk.2) (.int .i64 t275)) (fun _ hk => hk.2) (.int .i64 t276)) (fun _ hk => hk.2) (.int .i64 t277)) (fun _ hk => hk.1.2)⟩, ⟨by (with_reducible repeat (first | refine blk_drewN ?_ _ | refine blk_drew ?_ | refine blk_alloc ?_ _)); refine blk_put (cs := #[.int .i64 t272, .int .i64 t273, .int .i64 t274, .int .i64 t275, .int .i64 t276, .int .i64 0]) ?_ 5 _ rfl; (with_reducible repeat (first | refine blk_drewN ?_ _ | refine blk_drew ?_ | refine blk_alloc ?_ _)); refine blk_put (cs := #[.int .i64 t272, .int .i64 t273, .int .i64 t274, .int .i64 t275, .int .i64 0, .int .i64 0]) ?_ 4 _ rfl; (with_reducible repeat (first | refine blk_drewN ?_ _ | refine blk_drew ?_ | refine blk_alloc ?_ _)); refine blk_put (cs := #[.int .i64 t272, .int .i64 t273, .int .i64 t274, .int .i64 0, .int .i64 0, .int .i64 0]) ?_ 3 _ rfl; (with_reducible repeat (first | refine blk_drewN ?_ _ | refine blk_drew ?_ | refine blk_alloc ?_ _)); refine blk_put (cs := #[.int .i64 t272, .int .i64 t273, .int .i64 0, .int .i64 0, .int .i64 0, .int .i64 0]) ?_ 2 _ rfl; (with_reducible repeat (first | refine blk_drewN ?_ _ | refine blk_drew ?_ | refine blk_alloc ?_ _)); refine blk_put (cs := #[.int .i64 t272, .int .i64 0, .int .i64 0, .int .i64 0, .int .i64 0, .int .i64 0]) ?_ 1 _ rfl; (with_reducible repeat (first | refine blk_drewN ?_ _ | refine blk_drew ?_ | refine blk_alloc ?_ _)); refine blk_put (cs := #[.int .i64 0, .int .i64 0, .int .i64 0, .int .i64 0, .int .i64 0, .int .i64 0]) ?_ 0 _ rfl; (with_reducible repeat (first | refine blk_drewN ?_ _ | refine blk_drew ?_ | refine blk_alloc ?_ _)); exact BK280.out⟩, ⟨by repeat (first | (with_reducible first | exact HI266.out | apply IsS87.alloc | apply IsS87.drewN | apply IsS87.drew | apply IsS87.set_1 | apply IsS87.set_2 | refine IsS87.far ?_ NB266_280.out _) | exact HI266.out)⟩, ⟨by repeat (first | (with_reducible first | exact HB.out | apply bA_ | apply bN_ | apply bD_ | refine bS_ ?_ (IsS87.ge HI266.out) | refine bS_ ?_ GE280.out) | exact HB.out)⟩⟩
  case rest =>
    clear HC5
    try clear c1
    try clear p2
    try clear c7
    try clear c8
    try clear c10
    try clear c12
    try clear c12b0
    try clear c12b1
    try clear hcz11_0
    try clear hcz11_1
    try clear hcz11_2
    try clear hcz11_3
    try clear hcz11_4
    try clear hcz11_5
    try clear hfz11_0
    try clear hfz11_1
    try clear hfz11_2
    try clear hfz11_3
    try clear hfz11_4
    try clear hfz11_5
    obtain ⟨kq, x25_4, x267001_4, x267002_4, rfl, HA, HJ4, HO_9, BK280, HI266, HB⟩ := hcut
    cases kq with
    | zero => exact absurd HA.out (by simp [spec_DrawFindFact.j0])
    | succ kj4 =>
      have H := HA.out
      clear HA
      simp only [spec_DrawFindFact.j0] at H
      by_cases c17 : x25_4 = true
      · subst c17
        have H1 : ((spec_l1Below.f t263 x267001_4 x267002_4 (t267.length : Int)).bind fun bt284 => (if 0 ≤ bt284.1 then (if bt284.1 < (t267.length : Int) then ((spec_l1Below.f t263 bt284.2.1 bt284.2.2 8).bind fun bt288 => ((spec_l1Int.f t263 bt288.2.1 bt288.2.2 (([0, 3, 20, (-1)] : List Int))).bind fun bt294 => (some (t267, (rd_T54 t267 bt284.1).f0, (rd_T54 t267 bt284.1).f1, (rd_T54 t267 bt284.1).f2, wrap64 (((rd_T54 t267 bt284.1).f4) + bt288.1), bt294.1)))) else (none)) else (none))) = some (r1, r2, r3, r4, r5, r6) := by rw [if_pos rfl] at H; exact H
        clear H
        have H := H1
        clear H1
        replace H := Option.bind_eq_some_iff.mp H
        obtain ⟨⟨t284, t285, t286⟩, A180, H⟩ := H
        replace H : (if 0 ≤ t284 then (if t284 < (t267.length : Int) then ((spec_l1Below.f t263 t285 t286 8).bind fun bt288 => ((spec_l1Int.f t263 bt288.2.1 bt288.2.2 (([0, 3, 20, (-1)] : List Int))).bind fun bt294 => (some (t267, (rd_T54 t267 t284).f0, (rd_T54 t267 t284).f1, (rd_T54 t267 t284).f2, wrap64 (((rd_T54 t267 t284).f4) + bt288.1), bt294.1)))) else (none)) else (none)) = some (r1, r2, r3, r4, r5, r6) := H
        have A18 := Aside0.mk A180
        clear A180
        by_cases c19 : 0 ≤ t284
        · rw [if_pos c19] at H
          have c19b0 : decide (0 ≤ t284) = true := decide_eq_true c19
          clear c19
          by_cases c20 : t284 < (t267.length : Int)
          · rw [if_pos c20] at H
            have c20b0 : decide (t284 < (t267.length : Int)) = true := decide_eq_true c20
            clear c20
            replace H := Option.bind_eq_some_iff.mp H
            obtain ⟨⟨t288, t289, t290⟩, A210, H⟩ := H
            replace H : ((spec_l1Int.f t263 t289 t290 (([0, 3, 20, (-1)] : List Int))).bind fun bt294 => (some (t267, (rd_T54 t267 t284).f0, (rd_T54 t267 t284).f1, (rd_T54 t267 t284).f2, wrap64 (((rd_T54 t267 t284).f4) + t288), bt294.1))) = some (r1, r2, r3, r4, r5, r6) := H
            have A21 := Aside0.mk A210
            clear A210
            obtain ⟨y291, hy291⟩ : ∃ y_ : List Int, y_ = (([0, 3, 20, (-1)] : List Int)) := ⟨_, rfl⟩
            replace H : ((spec_l1Int.f t263 t289 t290 y291).bind fun bt294 => (some (t267, (rd_T54 t267 t284).f0, (rd_T54 t267 t284).f1, (rd_T54 t267 t284).f2, wrap64 (((rd_T54 t267 t284).f4) + t288), bt294.1))) = some (r1, r2, r3, r4, r5, r6) := by first | (rw [hy291]; with_reducible exact H) | (have H2_ := (Option.bind_some _ _).symm.trans H; rw [hy291]; with_reducible exact H2_) | (have H2_ := (Option.bind_some _ _).symm.trans H; with_reducible exact H2_) | with_reducible exact H | (rw [hy291]; exact H) | exact H
            have Ny291 := Aside0.mk hy291
            clear hy291
            replace H := Option.bind_eq_some_iff.mp H
            obtain ⟨⟨t294, t295, t296⟩, A220, H⟩ := H
            replace H : (some (t267, (rd_T54 t267 t284).f0, (rd_T54 t267 t284).f1, (rd_T54 t267 t284).f2, wrap64 (((rd_T54 t267 t284).f4) + t288), t294)) = some (r1, r2, r3, r4, r5, r6) := H
            have A22 := Aside0.mk A220
            clear A220
            simp only [Option.some.injEq, Prod.mk.injEq] at H
            obtain ⟨rfl, rfl, rfl, rfl, rfl, rfl⟩ := H
            obtain ⟨Ao23, co23, eo23⟩ := Kd.R_slice HO_9.out
            subst eo23
            try go_wp2_with (first | ((with_reducible refine gate_callee (f := 85) rfl ?_); refine goesL_ (some 30) rfl rfl Try.func85 z87_3 rfl #[.pointer (some ⟨g266, 0, none⟩), .int .i64 (t267.length : Int)] rfl z87_0 ?_; (with_reducible refine (spec_l1Below.calls g266 t263 x267001_4 x267002_4 (t267.length : Int) t284 t285 t286 w _ ?side1 ?side2 A18.out).mono ?_); (case side1 => repeat (first | (with_reducible first | exact HI266.out | apply IsS87.alloc | apply IsS87.drewN | apply IsS87.drew | apply IsS87.set_1 | apply IsS87.set_2 | refine IsS87.far ?_ NB266_280.out _) | exact HI266.out)); (case side2 => repeat (first | (with_reducible first | exact HB.out | apply bA_ | apply bN_ | apply bD_ | refine bS_ ?_ (IsS87.ge HI266.out) | refine bS_ ?_ GE280.out) | exact HB.out)); rintro e w24 ⟨rfl, hi, hb, hk⟩; refine ⟨_, rfl, ?_⟩; have n0_ := Aside0.mk (Kd.R_mono (Kd.R_keep (IsS87.apart (show IsS87 w _ g266 t263 x267001_4 x267002_4 from by repeat (first | (with_reducible first | exact HI266.out | apply IsS87.alloc | apply IsS87.drewN | apply IsS87.drew | apply IsS87.set_1 | apply IsS87.set_2 | refine IsS87.far ?_ NB266_280.out _) | exact HI266.out)) (pR87_ HO_9.out) (by decide)) hk (fun _ h => h.2)) (fun _ h => h.1)); have n1_ := Aside0.mk (KeepBut.blk hk (g' := gb280) (o := .cells #[.int .i64 t272, .int .i64 t273, .int .i64 t274, .int .i64 t275, .int .i64 t276, .int .i64 t277] 54 (0, 0)) (pB87_ BK280.out) NB280_266.out (by simp)); have n2_ := Aside0.mk (hb); have n3_ := Aside0.mk (hi); clear HO_9; clear BK280; clear HB; clear HI266; have HO_9 := n0_; have BK280 := n1_; have HB := n2_; have HI266 := n3_; clear n0_ n1_ n2_ n3_; (try clear hb); (try clear hb2); (try clear hk); (try clear hi); have p287 : 0 ≤ (t284 : Int) := of_decide_eq_true (by first | (with_reducible assumption) | assumption); have q287 : t284 < (t267.length : Int) := of_decide_eq_true (by first | (with_reducible assumption) | assumption); obtain ⟨ad287, e287, hx287_0, hx287_1, hx287_2, hx287_3, hx287_4, hx287_5⟩ := at_T54 (Kd.R_reads' HO_9.out).2.2 t284 p287 q287; cases e287; replace p287 := eq_true p287; replace q287 := eq_true q287; have hnb25 := NB280_266.out; have hnc25 := NB266_280.out; have hcz26_0 : w24.cell? ⟨gb280, 0, none⟩ = some (.int .i64 t272) := (bC_ BK280.out 0).trans rfl; have hcz26_1 : w24.cell? ⟨gb280, 1, none⟩ = some (.int .i64 t273) := (bC_ BK280.out 1).trans rfl; have hcz26_2 : w24.cell? ⟨gb280, 2, none⟩ = some (.int .i64 t274) := (bC_ BK280.out 2).trans rfl; have hcz26_3 : w24.cell? ⟨gb280, 3, none⟩ = some (.int .i64 t275) := (bC_ BK280.out 3).trans rfl; have hcz26_4 : w24.cell? ⟨gb280, 4, none⟩ = some (.int .i64 t276) := (bC_ BK280.out 4).trans rfl; have hcz26_5 : w24.cell? ⟨gb280, 5, none⟩ = some (.int .i64 t277) := (bC_ BK280.out 5).trans rfl; have hfz26_0 := bF_ BK280.out 0; have hfz26_1 := bF_ BK280.out 1; have hfz26_2 := bF_ BK280.out 2; have hfz26_3 := bF_ BK280.out 3; have hfz26_4 := bF_ BK280.out 4; have hfz26_5 := bF_ BK280.out 5))
            have n0_ : Aside0 (Kd.R k54 54 ((((((w24.setCell ⟨gb280, 0, none⟩ (.int .i64 ((rd_T54 t267 t284).f0))).setCell ⟨gb280, 1, none⟩ (.int .i64 ((rd_T54 t267 t284).f1))).setCell ⟨gb280, 2, none⟩ (.int .i64 ((rd_T54 t267 t284).f2))).setCell ⟨gb280, 3, none⟩ (.int .i64 ((rd_T54 t267 t284).f3))).setCell ⟨gb280, 4, none⟩ (.int .i64 ((rd_T54 t267 t284).f4))).setCell ⟨gb280, 5, none⟩ (.int .i64 ((rd_T54 t267 t284).f5))) w.heap.size (fun k_ => k_ ≠ gb280) (.slice (some ad287) t267.length co23) t267) := ⟨by (with_reducible repeat (first | apply Kd.R_alloc | apply Kd.R_drewN | apply Kd.R_drew)); exact Kd.R_mono (Kd.R_far (p := ⟨gb280, 5, none⟩) (Kd.R_far (p := ⟨gb280, 4, none⟩) (Kd.R_far (p := ⟨gb280, 3, none⟩) (Kd.R_far (p := ⟨gb280, 2, none⟩) (Kd.R_far (p := ⟨gb280, 1, none⟩) (Kd.R_far (p := ⟨gb280, 0, none⟩) (Kd.R_mono HO_9.out (fun k_ hk => (⟨hk, hk⟩ : _ ∧ k_ ≠ gb280))) (fun _ hk => hk.2) (.int .i64 ((rd_T54 t267 t284).f0))) (fun _ hk => hk.2) (.int .i64 ((rd_T54 t267 t284).f1))) (fun _ hk => hk.2) (.int .i64 ((rd_T54 t267 t284).f2))) (fun _ hk => hk.2) (.int .i64 ((rd_T54 t267 t284).f3))) (fun _ hk => hk.2) (.int .i64 ((rd_T54 t267 t284).f4))) (fun _ hk => hk.2) (.int .i64 ((rd_T54 t267 t284).f5))) (fun _ hk => hk.1)⟩
            have n1_ : Aside0 (((((((w24.setCell ⟨gb280, 0, none⟩ (.int .i64 ((rd_T54 t267 t284).f0))).setCell ⟨gb280, 1, none⟩ (.int .i64 ((rd_T54 t267 t284).f1))).setCell ⟨gb280, 2, none⟩ (.int .i64 ((rd_T54 t267 t284).f2))).setCell ⟨gb280, 3, none⟩ (.int .i64 ((rd_T54 t267 t284).f3))).setCell ⟨gb280, 4, none⟩ (.int .i64 ((rd_T54 t267 t284).f4))).setCell ⟨gb280, 5, none⟩ (.int .i64 ((rd_T54 t267 t284).f5))).heap[gb280]? = some (.cells #[.int .i64 ((rd_T54 t267 t284).f0), .int .i64 ((rd_T54 t267 t284).f1), .int .i64 ((rd_T54 t267 t284).f2), .int .i64 ((rd_T54 t267 t284).f3), .int .i64 ((rd_T54 t267 t284).f4), .int .i64 ((rd_T54 t267 t284).f5)] 54 (0, 0))) := ⟨by (with_reducible repeat (first | refine blk_drewN ?_ _ | refine blk_drew ?_ | refine blk_alloc ?_ _)); refine blk_put (cs := #[.int .i64 ((rd_T54 t267 t284).f0), .int .i64 ((rd_T54 t267 t284).f1), .int .i64 ((rd_T54 t267 t284).f2), .int .i64 ((rd_T54 t267 t284).f3), .int .i64 ((rd_T54 t267 t284).f4), .int .i64 t277]) ?_ 5 _ rfl; (with_reducible repeat (first | refine blk_drewN ?_ _ | refine blk_drew ?_ | refine blk_alloc ?_ _)); refine blk_put (cs := #[.int .i64 ((rd_T54 t267 t284).f0), .int .i64 ((rd_T54 t267 t284).f1), .int .i64 ((rd_T54 t267 t284).f2), .int .i64 ((rd_T54 t267 t284).f3), .int .i64 t276, .int .i64 t277]) ?_ 4 _ rfl; (with_reducible repeat (first | refine blk_drewN ?_ _ | refine blk_drew ?_ | refine blk_alloc ?_ _)); refine blk_put (cs := #[.int .i64 ((rd_T54 t267 t284).f0), .int .i64 ((rd_T54 t267 t284).f1), .int .i64 ((rd_T54 t267 t284).f2), .int .i64 t275, .int .i64 t276, .int .i64 t277]) ?_ 3 _ rfl; (with_reducible repeat (first | refine blk_drewN ?_ _ | refine blk_drew ?_ | refine blk_alloc ?_ _)); refine blk_put (cs := #[.int .i64 ((rd_T54 t267 t284).f0), .int .i64 ((rd_T54 t267 t284).f1), .int .i64 t274, .int .i64 t275, .int .i64 t276, .int .i64 t277]) ?_ 2 _ rfl; (with_reducible repeat (first | refine blk_drewN ?_ _ | refine blk_drew ?_ | refine blk_alloc ?_ _)); refine blk_put (cs := #[.int .i64 ((rd_T54 t267 t284).f0), .int .i64 t273, .int .i64 t274, .int .i64 t275, .int .i64 t276, .int .i64 t277]) ?_ 1 _ rfl; (with_reducible repeat (first | refine blk_drewN ?_ _ | refine blk_drew ?_ | refine blk_alloc ?_ _)); refine blk_put (cs := #[.int .i64 t272, .int .i64 t273, .int .i64 t274, .int .i64 t275, .int .i64 t276, .int .i64 t277]) ?_ 0 _ rfl; (with_reducible repeat (first | refine blk_drewN ?_ _ | refine blk_drew ?_ | refine blk_alloc ?_ _)); exact BK280.out⟩
            have n2_ : Aside0 (IsS87 w ((((((w24.setCell ⟨gb280, 0, none⟩ (.int .i64 ((rd_T54 t267 t284).f0))).setCell ⟨gb280, 1, none⟩ (.int .i64 ((rd_T54 t267 t284).f1))).setCell ⟨gb280, 2, none⟩ (.int .i64 ((rd_T54 t267 t284).f2))).setCell ⟨gb280, 3, none⟩ (.int .i64 ((rd_T54 t267 t284).f3))).setCell ⟨gb280, 4, none⟩ (.int .i64 ((rd_T54 t267 t284).f4))).setCell ⟨gb280, 5, none⟩ (.int .i64 ((rd_T54 t267 t284).f5))) g266 t263 t285 t286) := ⟨by repeat (first | (with_reducible first | exact HI266.out | apply IsS87.alloc | apply IsS87.drewN | apply IsS87.drew | apply IsS87.set_1 | apply IsS87.set_2 | refine IsS87.far ?_ NB266_280.out _) | exact HI266.out)⟩
            have n3_ : Aside0 (Below w.heap.size w ((((((w24.setCell ⟨gb280, 0, none⟩ (.int .i64 ((rd_T54 t267 t284).f0))).setCell ⟨gb280, 1, none⟩ (.int .i64 ((rd_T54 t267 t284).f1))).setCell ⟨gb280, 2, none⟩ (.int .i64 ((rd_T54 t267 t284).f2))).setCell ⟨gb280, 3, none⟩ (.int .i64 ((rd_T54 t267 t284).f3))).setCell ⟨gb280, 4, none⟩ (.int .i64 ((rd_T54 t267 t284).f4))).setCell ⟨gb280, 5, none⟩ (.int .i64 ((rd_T54 t267 t284).f5)))) := ⟨by repeat (first | (with_reducible first | exact HB.out | apply bA_ | apply bN_ | apply bD_ | refine bS_ ?_ (IsS87.ge HI266.out) | refine bS_ ?_ GE280.out) | exact HB.out)⟩
            (try clear HO_9)
            (try clear BK280)
            (try clear HI266)
            (try clear HB)
            generalize ((((((w24.setCell ⟨gb280, 0, none⟩ (.int .i64 ((rd_T54 t267 t284).f0))).setCell ⟨gb280, 1, none⟩ (.int .i64 ((rd_T54 t267 t284).f1))).setCell ⟨gb280, 2, none⟩ (.int .i64 ((rd_T54 t267 t284).f2))).setCell ⟨gb280, 3, none⟩ (.int .i64 ((rd_T54 t267 t284).f3))).setCell ⟨gb280, 4, none⟩ (.int .i64 ((rd_T54 t267 t284).f4))).setCell ⟨gb280, 5, none⟩ (.int .i64 ((rd_T54 t267 t284).f5))) = w27 at n0_ n1_ n2_ n3_ ⊢
            have HO_9 := n0_
            have BK280 := n1_
            have HI266 := n2_
            have HB := n3_
            clear n0_ n1_ n2_ n3_
            have n0_ := Aside0.mk (Kd.R_drew HO_9.out)
            have n1_ := Aside0.mk (blk_drew BK280.out)
            have n2_ := Aside0.mk (IsS87.drew HI266.out)
            have n3_ := Aside0.mk (bD_ HB.out)
            clear HO_9
            clear BK280
            clear HI266
            clear HB
            have HO_9 := n0_
            have BK280 := n1_
            have HI266 := n2_
            have HB := n3_
            clear n0_ n1_ n2_ n3_
            refine start_ (n := 6) (S := fun w' => w'.cell? ⟨gb280, 0, none⟩ = some (.int .i64 ((rd_T54 t267 t284).f0)) ∧ w'.cell? ⟨gb280, 1, none⟩ = some (.int .i64 ((rd_T54 t267 t284).f1)) ∧ w'.cell? ⟨gb280, 2, none⟩ = some (.int .i64 ((rd_T54 t267 t284).f2)) ∧ w'.cell? ⟨gb280, 3, none⟩ = some (.int .i64 ((rd_T54 t267 t284).f3)) ∧ w'.cell? ⟨gb280, 4, none⟩ = some (.int .i64 ((rd_T54 t267 t284).f4)) ∧ w'.cell? ⟨gb280, 5, none⟩ = some (.int .i64 ((rd_T54 t267 t284).f5))) (ds := []) #[false, false, false, false, false, false] z87_3 rfl rfl ⟨(bC_ BK280.out 0).trans rfl, (bC_ BK280.out 1).trans rfl, (bC_ BK280.out 2).trans rfl, (bC_ BK280.out 3).trans rfl, (bC_ BK280.out 4).trans rfl, (bC_ BK280.out 5).trans rfl⟩ (fun hHeld => ?_)
            generalize w27.drew = w28 at HO_9 BK280 HI266 HB hHeld ⊢
            refine pure_ (i := 0) (N := some 33) (v := ?_) (a' := ?_) #[true, false, false, false, false, false] rfl rfl z87_3 (fun _ _ _ h => h) (Or.inl ⟨by rfl, ?_⟩) ?_ ?_
            rotate_left
            · intro w'
              go_simp
              with_reducible rfl
            rotate_left
            · simp only [Act.put, List.setIfInBounds_toArray, List.set_cons_zero, List.set_cons_succ, i64_w, i32_w]
              rfl
            refine pure_ (i := 2) (N := some 35) (v := ?_) (a' := ?_) #[true, false, true, false, false, false] rfl rfl z87_3 (fun _ _ _ h => h) (Or.inl ⟨by rfl, ?_⟩) ?_ ?_
            rotate_left
            · intro w'
              go_simp
              with_reducible rfl
            rotate_left
            · simp only [Act.put, List.setIfInBounds_toArray, List.set_cons_zero, List.set_cons_succ, i64_w, i32_w]
              rfl
            refine take_ (i := 1) (N := some 34) (v := ?_) (a' := ?_) #[true, true, true, false, false, false] rfl rfl z87_3 (fun _ _ _ h => h) (Or.inl ⟨by rfl, ?_⟩) hHeld ?_ ?_
            rotate_left
            · rintro w' ⟨s0, s1, s2, s3, s4, s5⟩
              go_simp
              with_reducible rfl
            rotate_left
            · simp only [Act.put, List.setIfInBounds_toArray, List.set_cons_zero, List.set_cons_succ, i64_w, i32_w]
              rfl
            refine one_ (i := 3) (N := some 36) #[true, true, true, true, false, false] rfl rfl z87_3 (by decide) (fun K hK => ?_)
            refine goes_ Try.func85 z87_3 rfl #[.pointer (some ⟨g266, 0, none⟩), .int .i64 8] (by rfl) rfl rfl z87_0 ?_
            with_reducible refine (spec_l1Below.calls g266 t263 t285 t286 8 t288 t289 t290 w _ ?side1 ?side2 A21.out).mono ?_
            (case side1 => repeat (first | (with_reducible first | exact HI266.out | apply IsS87.alloc | apply IsS87.drewN | apply IsS87.drew | apply IsS87.set_1 | apply IsS87.set_2 | refine IsS87.far ?_ NB266_280.out _) | exact HI266.out))
            (case side2 => repeat (first | (with_reducible first | exact HB.out | apply bA_ | apply bN_ | apply bD_ | refine bS_ ?_ (IsS87.ge HI266.out) | refine bS_ ?_ GE280.out) | exact HB.out))
            rintro e w29 ⟨rfl, hi, hb, hk⟩
            refine ⟨_, rfl, ?_⟩
            have n0_ := Aside0.mk (Kd.R_mono (Kd.R_keep (IsS87.apart (show IsS87 w _ g266 t263 t285 t286 from by repeat (first | (with_reducible first | exact HI266.out | apply IsS87.alloc | apply IsS87.drewN | apply IsS87.drew | apply IsS87.set_1 | apply IsS87.set_2 | refine IsS87.far ?_ NB266_280.out _) | exact HI266.out)) (pR87_ HO_9.out) (by decide)) hk (fun _ h => h.2)) (fun _ h => h.1))
            have n1_ := Aside0.mk (KeepBut.blk hk (g' := gb280) (o := .cells #[.int .i64 ((rd_T54 t267 t284).f0), .int .i64 ((rd_T54 t267 t284).f1), .int .i64 ((rd_T54 t267 t284).f2), .int .i64 ((rd_T54 t267 t284).f3), .int .i64 ((rd_T54 t267 t284).f4), .int .i64 ((rd_T54 t267 t284).f5)] 54 (0, 0)) (pB87_ BK280.out) NB280_266.out (by simp))
            have n2_ := Aside0.mk (hb)
            have n3_ := Aside0.mk (hi)
            clear HO_9
            clear BK280
            clear HB
            clear HI266
            have HO_9 := n0_
            have BK280 := n1_
            have HB := n2_
            have HI266 := n3_
            clear n0_ n1_ n2_ n3_
            (try clear hb)
            (try clear hb2)
            (try clear hk)
            (try clear hi)
            refine hK.out _ _ ⟨(bC_ BK280.out 0).trans rfl, (bC_ BK280.out 1).trans rfl, (bC_ BK280.out 2).trans rfl, (bC_ BK280.out 3).trans rfl, (bC_ BK280.out 4).trans rfl, (bC_ BK280.out 5).trans rfl⟩ (fun hHeld => ?_)
            clear hK K
            refine norm_ (a' := ?_) ?_ ?_
            rotate_left
            · show Act.put _ (some 36) _ = _
              simp only [Act.put, List.setIfInBounds_toArray, List.set_cons_zero, List.set_cons_succ, i64_w, i32_w]
              rfl
            refine pure_ (i := 4) (N := some 37) (v := ?_) (a' := ?_) #[true, true, true, true, true, false] rfl rfl z87_3 (fun _ _ _ h => h) (Or.inl ⟨by rfl, ?_⟩) ?_ ?_
            rotate_left
            · intro w'
              go_simp
              with_reducible rfl
            rotate_left
            · simp only [Act.put, List.setIfInBounds_toArray, List.set_cons_zero, List.set_cons_succ, i64_w, i32_w]
              rfl
            refine pure_ (i := 5) (N := some 11) (v := ?_) (a' := ?_) #[true, true, true, true, true, true] rfl rfl z87_3 (fun _ _ _ h => h) (Or.inl ⟨by rfl, ?_⟩) ?_ ?_
            rotate_left
            · intro w'
              go_simp
              with_reducible rfl
            rotate_left
            · simp only [Act.put, List.setIfInBounds_toArray, List.set_cons_zero, List.set_cons_succ, i64_w, i32_w]
              rfl
            refine done_ z87_3 ?_
            try go_wp2
            have n0_ := Aside0.mk (Kd.R_drew HO_9.out)
            have n1_ := Aside0.mk (blk_drew BK280.out)
            have n2_ := Aside0.mk (IsS87.drew HI266.out)
            have n3_ := Aside0.mk (bD_ HB.out)
            clear HO_9
            clear BK280
            clear HI266
            clear HB
            have HO_9 := n0_
            have BK280 := n1_
            have HI266 := n2_
            have HB := n3_
            clear n0_ n1_ n2_ n3_
            refine start_ (n := 17) (S := fun w' => w'.cell? ⟨gb280, 0, none⟩ = some (.int .i64 ((rd_T54 t267 t284).f0)) ∧ w'.cell? ⟨gb280, 1, none⟩ = some (.int .i64 ((rd_T54 t267 t284).f1)) ∧ w'.cell? ⟨gb280, 2, none⟩ = some (.int .i64 ((rd_T54 t267 t284).f2)) ∧ w'.cell? ⟨gb280, 3, none⟩ = some (.int .i64 ((rd_T54 t267 t284).f3)) ∧ w'.cell? ⟨gb280, 4, none⟩ = some (.int .i64 ((rd_T54 t267 t284).f4)) ∧ w'.cell? ⟨gb280, 5, none⟩ = some (.int .i64 ((rd_T54 t267 t284).f5))) (ds := []) #[false, false, false, false, false, false, false, false, false, false, false, false, false, false, false, false, false] z87_3 rfl rfl ⟨(bC_ BK280.out 0).trans rfl, (bC_ BK280.out 1).trans rfl, (bC_ BK280.out 2).trans rfl, (bC_ BK280.out 3).trans rfl, (bC_ BK280.out 4).trans rfl, (bC_ BK280.out 5).trans rfl⟩ (fun hHeld => ?_); refine with_tabW spec_DrawFindFact.tab7 spec_DrawFindFact.bits7 (fun HT_ HW_ => ?_)
            generalize w29.drew = w30 at HO_9 BK280 HI266 HB hHeld ⊢
            refine pure_ (i := 0) (N := some 38) (v := ?_) (a' := ?_) #[true, false, false, false, false, false, false, false, false, false, false, false, false, false, false, false, false] rfl rfl (any_of HT_.out z87_3) (fun _ _ _ h => h) (Or.inl ⟨by rfl, ?_⟩) ?_ ?_
            rotate_left
            · intro w'
              go_simp
              with_reducible rfl
            rotate_left
            · simp only [Act.put, List.setIfInBounds_toArray, List.set_cons_zero, List.set_cons_succ, i64_w, i32_w]
              rfl
            refine pure_ (i := 1) (N := some 39) (v := ?_) (a' := ?_) #[true, true, false, false, false, false, false, false, false, false, false, false, false, false, false, false, false] rfl rfl (any_of HT_.out z87_3) (fun _ _ _ h => h) (Or.inl ⟨by rfl, ?_⟩) ?_ ?_
            rotate_left
            · intro w'
              go_simp
              with_reducible rfl
            rotate_left
            · simp only [Act.put, List.setIfInBounds_toArray, List.set_cons_zero, List.set_cons_succ, i64_w, i32_w]
              rfl
            refine pure_ (i := 3) (N := some 41) (v := ?_) (a' := ?_) #[true, true, false, true, false, false, false, false, false, false, false, false, false, false, false, false, false] rfl rfl (any_of HT_.out z87_3) (fun _ _ _ h => h) (Or.inl ⟨by rfl, ?_⟩) ?_ ?_
            rotate_left
            · intro w'
              go_simp
              with_reducible rfl
            rotate_left
            · simp only [Act.put, List.setIfInBounds_toArray, List.set_cons_zero, List.set_cons_succ, i64_w, i32_w]
              rfl
            refine pure_ (i := 5) (N := some 43) (v := ?_) (a' := ?_) #[true, true, false, true, false, true, false, false, false, false, false, false, false, false, false, false, false] rfl rfl (any_of HT_.out z87_3) (fun _ _ _ h => h) (Or.inl ⟨by rfl, ?_⟩) ?_ ?_
            rotate_left
            · intro w'
              go_simp
              with_reducible rfl
            rotate_left
            · simp only [Act.put, List.setIfInBounds_toArray, List.set_cons_zero, List.set_cons_succ, i64_w, i32_w]
              rfl
            refine pure_ (i := 7) (N := some 45) (v := ?_) (a' := ?_) #[true, true, false, true, false, true, false, true, false, false, false, false, false, false, false, false, false] rfl rfl (any_of HT_.out z87_3) (fun _ _ _ h => h) (Or.inl ⟨by rfl, ?_⟩) ?_ ?_
            rotate_left
            · intro w'
              go_simp
              with_reducible rfl
            rotate_left
            · simp only [Act.put, List.setIfInBounds_toArray, List.set_cons_zero, List.set_cons_succ, i64_w, i32_w]
              rfl
            refine pure_ (i := 8) (N := some 46) (v := ?_) (a' := ?_) #[true, true, false, true, false, true, false, true, true, false, false, false, false, false, false, false, false] rfl rfl (any_of HT_.out z87_3) (fun _ _ _ h => h) (Or.inl ⟨by rfl, ?_⟩) ?_ ?_
            rotate_left
            · intro w'
              go_simp
              with_reducible rfl
            rotate_left
            · simp only [Act.put, List.setIfInBounds_toArray, List.set_cons_zero, List.set_cons_succ, i64_w, i32_w]
              rfl
            refine take_ (i := 2) (N := some 40) (v := ?_) (a' := ?_) #[true, true, true, true, false, true, false, true, true, false, false, false, false, false, false, false, false] rfl rfl (take_ofW HT_.out HW_.out z87_3) (fun _ _ _ h => h) (Or.inl ⟨by rfl, ?_⟩) hHeld ?_ ?_
            rotate_left
            · rintro w' ⟨s0, s1, s2, s3, s4, s5⟩
              go_simp
              with_reducible rfl
            rotate_left
            · simp only [Act.put, List.setIfInBounds_toArray, List.set_cons_zero, List.set_cons_succ, i64_w, i32_w]
              rfl
            refine take_ (i := 4) (N := some 42) (v := ?_) (a' := ?_) #[true, true, true, true, true, true, false, true, true, false, false, false, false, false, false, false, false] rfl rfl (take_ofW HT_.out HW_.out z87_3) (fun _ _ _ h => h) (Or.inl ⟨by rfl, ?_⟩) hHeld ?_ ?_
            rotate_left
            · rintro w' ⟨s0, s1, s2, s3, s4, s5⟩
              go_simp
              with_reducible rfl
            rotate_left
            · simp only [Act.put, List.setIfInBounds_toArray, List.set_cons_zero, List.set_cons_succ, i64_w, i32_w]
              rfl
            refine take_ (i := 6) (N := some 44) (v := ?_) (a' := ?_) #[true, true, true, true, true, true, true, true, true, false, false, false, false, false, false, false, false] rfl rfl (take_ofW HT_.out HW_.out z87_3) (fun _ _ _ h => h) (Or.inl ⟨by rfl, ?_⟩) hHeld ?_ ?_
            rotate_left
            · rintro w' ⟨s0, s1, s2, s3, s4, s5⟩
              go_simp
              with_reducible rfl
            rotate_left
            · simp only [Act.put, List.setIfInBounds_toArray, List.set_cons_zero, List.set_cons_succ, i64_w, i32_w]
              rfl
            refine one_ (i := 9) (N := some 47) #[true, true, true, true, true, true, true, true, true, true, false, false, false, false, false, false, false] rfl rfl (one_of HT_.out z87_3) (by decide) (fun K hK => ?_)
            refine Kd.R_lit_step (Kd.int .i64) _ 3 ?hg (N := 47) ?hd (xs := ([0, 3, 20, (-1)] : List Int)) (inner := [.int .i64 0, .int .i64 3, .int .i64 20, .int .i64 (-1)]) (ok := fun _ => True) (okp := fun _ => True) ?hr ?hp (fun _ hk => hk) trivial (Below.refl _ _) (Nat.le_refl _) (by simp) ?_; (case hd => rfl); (case hg => rfl); (case hr => first | (go_simp; done) | (go_simp; rfl)); (case hp => exact (Reps.one (show Kd.M (Kd.int .i64) _ _ _ 0 [.int .i64 0] from rfl) (Reps.one (show Kd.M (Kd.int .i64) _ _ _ 3 [.int .i64 3] from rfl) (Reps.one (show Kd.M (Kd.int .i64) _ _ _ 20 [.int .i64 20] from rfl) (Reps.one (show Kd.M (Kd.int .i64) _ _ _ (-1) [.int .i64 (-1)] from rfl) (Reps.none _ _))))))
            intro v292 w31 ho32 hb hg_ hnew_
            clear hg_ hnew_
            (first | rw [← Ny291.out] at ho32 | (simp only [Int.reduceToNat] at ho32; rw [← Ny291.out] at ho32))
            have n0_ := Aside0.mk (Kd.R_below (pR87_ HO_9.out) hb)
            have n1_ := Aside0.mk (Kd.R_lower ho32 (below_size z87_1))
            have n2_ := Aside0.mk (blk_below (g := gb280) (o := .cells #[.int .i64 ((rd_T54 t267 t284).f0), .int .i64 ((rd_T54 t267 t284).f1), .int .i64 ((rd_T54 t267 t284).f2), .int .i64 ((rd_T54 t267 t284).f3), .int .i64 ((rd_T54 t267 t284).f4), .int .i64 ((rd_T54 t267 t284).f5)] 54 (0, 0)) (pB87_ BK280.out) hb)
            have n3_ := Aside0.mk (IsS87.below z87_4 hb)
            have n4_ := Aside0.mk (below_step z87_1 hb)
            clear HO_9
            clear BK280
            clear HI266
            clear HB
            have HO_9 := n0_
            have HO293 := n1_
            have BK280 := n2_
            have HI266 := n3_
            have HB := n4_
            clear n0_ n1_ n2_ n3_ n4_
            clear hb ho32
            obtain ⟨Ao33, co33, eo33⟩ := Kd.R_slice HO293.out
            (first | subst eo33 | (injection eo33 with f1_ f2_ f3_; have f4_ := f1_.symm; have f5_ := f3_.symm; clear f1_ f2_ f3_; subst f4_; subst f5_))
            refine hK.out _ _ ⟨(bC_ BK280.out 0).trans rfl, (bC_ BK280.out 1).trans rfl, (bC_ BK280.out 2).trans rfl, (bC_ BK280.out 3).trans rfl, (bC_ BK280.out 4).trans rfl, (bC_ BK280.out 5).trans rfl⟩ (fun hHeld => ?_)
            clear hK K
            refine norm_ (a' := ?_) ?_ ?_
            rotate_left
            · show Act.put _ (some 47) _ = _
              simp only [Act.put, List.setIfInBounds_toArray, List.set_cons_zero, List.set_cons_succ, i64_w, i32_w]
              rfl
            refine one_ (i := 10) (N := some 48) #[true, true, true, true, true, true, true, true, true, true, true, false, false, false, false, false, false] rfl rfl (one_of HT_.out z87_3) (by decide) (fun K hK => ?_)
            refine goes_ Try.func79 z87_3 rfl #[.pointer (some ⟨g266, 0, none⟩), .slice Ao33 y291.length co33] (by rfl) rfl rfl z87_0 ?_
            with_reducible refine (spec_l1Int.calls g266 t263 t289 t290 _ _ y291 t294 t295 t296 w _ ?side1 ?side2 ?side3 ?side4 ?side5 A22.out).mono ?_
            (case side1 => repeat (first | (with_reducible first | exact HI266.out | apply IsS87.alloc | apply IsS87.drewN | apply IsS87.drew | apply IsS87.set_1 | apply IsS87.set_2 | refine IsS87.far ?_ NB266_280.out _) | exact HI266.out))
            (case side2 => repeat (first | (with_reducible first | exact HB.out | apply bA_ | apply bN_ | apply bD_ | refine bS_ ?_ (IsS87.ge HI266.out) | refine bS_ ?_ GE280.out) | exact HB.out))
            (case side3 => repeat (first | exact (Kd.R_reads' HO293.out).2.2 | (with_reducible refine Kd.C_alloc ?_ _) | (with_reducible refine Kd.C_drewN ?_ _) | (with_reducible refine Kd.C_drew ?_)))
            (case side4 => exact (Kd.R_reads' HO293.out).2.1)
            (case side5 => exact far_slice (IsS87.own_ne HI266.out HO293.out (by decide)))
            rintro e w34 ⟨rfl, hi, hb, hk⟩
            refine ⟨_, rfl, ?_⟩
            have n0_ := Aside0.mk (Kd.R_mono (Kd.R_keep (IsS87.apart (show IsS87 w _ g266 t263 t289 t290 from by repeat (first | (with_reducible first | exact HI266.out | apply IsS87.alloc | apply IsS87.drewN | apply IsS87.drew | apply IsS87.set_1 | apply IsS87.set_2 | refine IsS87.far ?_ NB266_280.out _) | exact HI266.out)) (pR87_ HO_9.out) (by decide)) hk (fun _ h => h.2)) (fun _ h => h.1))
            have n1_ := Aside0.mk (KeepBut.blk hk (g' := gb280) (o := .cells #[.int .i64 ((rd_T54 t267 t284).f0), .int .i64 ((rd_T54 t267 t284).f1), .int .i64 ((rd_T54 t267 t284).f2), .int .i64 ((rd_T54 t267 t284).f3), .int .i64 ((rd_T54 t267 t284).f4), .int .i64 ((rd_T54 t267 t284).f5)] 54 (0, 0)) (pB87_ BK280.out) NB280_266.out (by simp))
            have n2_ := Aside0.mk (Kd.R_mono (Kd.R_keep (IsS87.apart (show IsS87 w _ g266 t263 t289 t290 from by repeat (first | (with_reducible first | exact HI266.out | apply IsS87.alloc | apply IsS87.drewN | apply IsS87.drew | apply IsS87.set_1 | apply IsS87.set_2 | refine IsS87.far ?_ NB266_280.out _) | exact HI266.out)) (pR87_ HO293.out) (by decide)) hk (fun _ h => h.2)) (fun _ h => h.1))
            have n3_ := Aside0.mk (hb)
            have n4_ := Aside0.mk (hi)
            clear HO_9
            clear BK280
            clear HO293
            clear HB
            clear HI266
            have HO_9 := n0_
            have BK280 := n1_
            have HO293 := n2_
            have HB := n3_
            have HI266 := n4_
            clear n0_ n1_ n2_ n3_ n4_
            (try clear hb)
            (try clear hb2)
            (try clear hk)
            (try clear hi)
            refine hK.out _ _ ⟨(bC_ BK280.out 0).trans rfl, (bC_ BK280.out 1).trans rfl, (bC_ BK280.out 2).trans rfl, (bC_ BK280.out 3).trans rfl, (bC_ BK280.out 4).trans rfl, (bC_ BK280.out 5).trans rfl⟩ (fun hHeld => ?_)
            clear hK K
            refine norm_ (a' := ?_) ?_ ?_
            rotate_left
            · show Act.put _ (some 48) _ = _
              simp only [Act.put, List.setIfInBounds_toArray, List.set_cons_zero, List.set_cons_succ, i64_w, i32_w]
              rfl
            refine pure_ (i := 11) (N := some 2) (v := ?_) (a' := ?_) #[true, true, true, true, true, true, true, true, true, true, true, true, false, false, false, false, false] rfl rfl (any_of HT_.out z87_3) (fun _ _ _ h => h) (Or.inl ⟨by rfl, ?_⟩) ?_ ?_
            rotate_left
            · intro w'
              go_simp
              with_reducible rfl
            rotate_left
            · simp only [Act.put, List.setIfInBounds_toArray, List.set_cons_zero, List.set_cons_succ, i64_w, i32_w]
              rfl
            refine pure_ (i := 12) (N := some 3) (v := ?_) (a' := ?_) #[true, true, true, true, true, true, true, true, true, true, true, true, true, false, false, false, false] rfl rfl (any_of HT_.out z87_3) (fun _ _ _ h => h) (Or.inl ⟨by rfl, ?_⟩) ?_ ?_
            rotate_left
            · intro w'
              go_simp
              with_reducible rfl
            rotate_left
            · simp only [Act.put, List.setIfInBounds_toArray, List.set_cons_zero, List.set_cons_succ, i64_w, i32_w]
              rfl
            refine pure_ (i := 13) (N := some 4) (v := ?_) (a' := ?_) #[true, true, true, true, true, true, true, true, true, true, true, true, true, true, false, false, false] rfl rfl (any_of HT_.out z87_3) (fun _ _ _ h => h) (Or.inl ⟨by rfl, ?_⟩) ?_ ?_
            rotate_left
            · intro w'
              go_simp
              with_reducible rfl
            rotate_left
            · simp only [Act.put, List.setIfInBounds_toArray, List.set_cons_zero, List.set_cons_succ, i64_w, i32_w]
              rfl
            refine pure_ (i := 14) (N := some 5) (v := ?_) (a' := ?_) #[true, true, true, true, true, true, true, true, true, true, true, true, true, true, true, false, false] rfl rfl (any_of HT_.out z87_3) (fun _ _ _ h => h) (Or.inl ⟨by rfl, ?_⟩) ?_ ?_
            rotate_left
            · intro w'
              go_simp
              with_reducible rfl
            rotate_left
            · simp only [Act.put, List.setIfInBounds_toArray, List.set_cons_zero, List.set_cons_succ, i64_w, i32_w]
              rfl
            refine pure_ (i := 15) (N := some 6) (v := ?_) (a' := ?_) #[true, true, true, true, true, true, true, true, true, true, true, true, true, true, true, true, false] rfl rfl (any_of HT_.out z87_3) (fun _ _ _ h => h) (Or.inl ⟨by rfl, ?_⟩) ?_ ?_
            rotate_left
            · intro w'
              go_simp
              with_reducible rfl
            rotate_left
            · simp only [Act.put, List.setIfInBounds_toArray, List.set_cons_zero, List.set_cons_succ, i64_w, i32_w]
              rfl
            refine pure_ (i := 16) (N := some 7) (v := ?_) (a' := ?_) #[true, true, true, true, true, true, true, true, true, true, true, true, true, true, true, true, true] rfl rfl (any_of HT_.out z87_3) (fun _ _ _ h => h) (Or.inl ⟨by rfl, ?_⟩) ?_ ?_
            rotate_left
            · intro w'
              go_simp
              with_reducible rfl
            rotate_left
            · simp only [Act.put, List.setIfInBounds_toArray, List.set_cons_zero, List.set_cons_succ, i64_w, i32_w]
              rfl
            refine done_ (done_of HT_.out z87_3) ?_
            try go_wp2
            refine bodyPost_ret (results_list (rs := [.tmp 2, .tmp 3, .tmp 4, .tmp 5, .tmp 6, .tmp 7]) rfl (by simp) (.tmp (.tmp (.tmp (.tmp (.tmp (.tmp .nil))))))) rfl ?_
            exact ⟨_, by first | rfl | (simp [errW_none, errW_some] <;> rfl) | (simp [*, errW_none, errW_some] <;> rfl), by (with_reducible repeat (first | apply Kd.R_alloc | apply Kd.R_drewN | apply Kd.R_drew)); exact Kd.R_mono HO_9.out (fun _ hk => trivial), by repeat (first | (with_reducible first | exact HB.out | apply bA_ | apply bN_ | apply bD_ | refine bS_ ?_ (IsS87.ge HI266.out) | refine bS_ ?_ GE280.out) | exact HB.out)⟩
          · rw [if_neg c20] at H
            exact absurd H (by simp)
        · rw [if_neg c19] at H
          exact absurd H (by simp)
      · replace c17 := Bool.eq_false_iff.mpr c17
        subst c17
        have H1 : ((spec_l1Below.f t263 x267001_4 x267002_4 8).bind fun bt297 => ((spec_l1Int.f t263 bt297.2.1 bt297.2.2 (([0, 3, 20, (-1)] : List Int))).bind fun bt303 => (some (t267, t272, t273, t274, wrap64 (t276 + bt297.1), bt303.1)))) = some (r1, r2, r3, r4, r5, r6) := by rw [if_neg (show ¬ (false = true) by decide)] at H; exact H
        clear H
        have H := H1
        clear H1
        replace H := Option.bind_eq_some_iff.mp H
        obtain ⟨⟨t297, t298, t299⟩, A350, H⟩ := H
        replace H : ((spec_l1Int.f t263 t298 t299 (([0, 3, 20, (-1)] : List Int))).bind fun bt303 => (some (t267, t272, t273, t274, wrap64 (t276 + t297), bt303.1))) = some (r1, r2, r3, r4, r5, r6) := H
        have A35 := Aside0.mk A350
        clear A350
        obtain ⟨y300, hy300⟩ : ∃ y_ : List Int, y_ = (([0, 3, 20, (-1)] : List Int)) := ⟨_, rfl⟩
        replace H : ((spec_l1Int.f t263 t298 t299 y300).bind fun bt303 => (some (t267, t272, t273, t274, wrap64 (t276 + t297), bt303.1))) = some (r1, r2, r3, r4, r5, r6) := by first | (rw [hy300]; with_reducible exact H) | (have H2_ := (Option.bind_some _ _).symm.trans H; rw [hy300]; with_reducible exact H2_) | (have H2_ := (Option.bind_some _ _).symm.trans H; with_reducible exact H2_) | with_reducible exact H | (rw [hy300]; exact H) | exact H
        have Ny300 := Aside0.mk hy300
        clear hy300
        replace H := Option.bind_eq_some_iff.mp H
        obtain ⟨⟨t303, t304, t305⟩, A360, H⟩ := H
        replace H : (some (t267, t272, t273, t274, wrap64 (t276 + t297), t303)) = some (r1, r2, r3, r4, r5, r6) := H
        have A36 := Aside0.mk A360
        clear A360
        simp only [Option.some.injEq, Prod.mk.injEq] at H
        obtain ⟨rfl, rfl, rfl, rfl, rfl, rfl⟩ := H
        try go_wp2
        have n0_ := Aside0.mk (Kd.R_drew HO_9.out)
        have n1_ := Aside0.mk (blk_drew BK280.out)
        have n2_ := Aside0.mk (IsS87.drew HI266.out)
        have n3_ := Aside0.mk (bD_ HB.out)
        clear HO_9
        clear BK280
        clear HI266
        clear HB
        have HO_9 := n0_
        have BK280 := n1_
        have HI266 := n2_
        have HB := n3_
        clear n0_ n1_ n2_ n3_
        refine start_ (n := 6) (S := fun w' => w'.cell? ⟨gb280, 0, none⟩ = some (.int .i64 t272) ∧ w'.cell? ⟨gb280, 1, none⟩ = some (.int .i64 t273) ∧ w'.cell? ⟨gb280, 2, none⟩ = some (.int .i64 t274) ∧ w'.cell? ⟨gb280, 3, none⟩ = some (.int .i64 t275) ∧ w'.cell? ⟨gb280, 4, none⟩ = some (.int .i64 t276) ∧ w'.cell? ⟨gb280, 5, none⟩ = some (.int .i64 t277)) (ds := []) #[false, false, false, false, false, false] z87_3 rfl rfl ⟨(bC_ BK280.out 0).trans rfl, (bC_ BK280.out 1).trans rfl, (bC_ BK280.out 2).trans rfl, (bC_ BK280.out 3).trans rfl, (bC_ BK280.out 4).trans rfl, (bC_ BK280.out 5).trans rfl⟩ (fun hHeld => ?_)
        generalize wc.drew = w37 at HO_9 BK280 HI266 HB hHeld ⊢
        refine pure_ (i := 0) (N := some 33) (v := ?_) (a' := ?_) #[true, false, false, false, false, false] rfl rfl z87_3 (fun _ _ _ h => h) (Or.inl ⟨by rfl, ?_⟩) ?_ ?_
        rotate_left
        · intro w'
          go_simp
          with_reducible rfl
        rotate_left
        · simp only [Act.put, List.setIfInBounds_toArray, List.set_cons_zero, List.set_cons_succ, i64_w, i32_w]
          rfl
        refine pure_ (i := 2) (N := some 35) (v := ?_) (a' := ?_) #[true, false, true, false, false, false] rfl rfl z87_3 (fun _ _ _ h => h) (Or.inl ⟨by rfl, ?_⟩) ?_ ?_
        rotate_left
        · intro w'
          go_simp
          with_reducible rfl
        rotate_left
        · simp only [Act.put, List.setIfInBounds_toArray, List.set_cons_zero, List.set_cons_succ, i64_w, i32_w]
          rfl
        refine take_ (i := 1) (N := some 34) (v := ?_) (a' := ?_) #[true, true, true, false, false, false] rfl rfl z87_3 (fun _ _ _ h => h) (Or.inl ⟨by rfl, ?_⟩) hHeld ?_ ?_
        rotate_left
        · rintro w' ⟨s0, s1, s2, s3, s4, s5⟩
          go_simp
          with_reducible rfl
        rotate_left
        · simp only [Act.put, List.setIfInBounds_toArray, List.set_cons_zero, List.set_cons_succ, i64_w, i32_w]
          rfl
        refine one_ (i := 3) (N := some 36) #[true, true, true, true, false, false] rfl rfl z87_3 (by decide) (fun K hK => ?_)
        refine goes_ Try.func85 z87_3 rfl #[.pointer (some ⟨g266, 0, none⟩), .int .i64 8] (by rfl) rfl rfl z87_0 ?_
        with_reducible refine (spec_l1Below.calls g266 t263 x267001_4 x267002_4 8 t297 t298 t299 w _ ?side1 ?side2 A35.out).mono ?_
        (case side1 => repeat (first | (with_reducible first | exact HI266.out | apply IsS87.alloc | apply IsS87.drewN | apply IsS87.drew | apply IsS87.set_1 | apply IsS87.set_2 | refine IsS87.far ?_ NB266_280.out _) | exact HI266.out))
        (case side2 => repeat (first | (with_reducible first | exact HB.out | apply bA_ | apply bN_ | apply bD_ | refine bS_ ?_ (IsS87.ge HI266.out) | refine bS_ ?_ GE280.out) | exact HB.out))
        rintro e w38 ⟨rfl, hi, hb, hk⟩
        refine ⟨_, rfl, ?_⟩
        have n0_ := Aside0.mk (Kd.R_mono (Kd.R_keep (IsS87.apart (show IsS87 w _ g266 t263 x267001_4 x267002_4 from by repeat (first | (with_reducible first | exact HI266.out | apply IsS87.alloc | apply IsS87.drewN | apply IsS87.drew | apply IsS87.set_1 | apply IsS87.set_2 | refine IsS87.far ?_ NB266_280.out _) | exact HI266.out)) (pR87_ HO_9.out) (by decide)) hk (fun _ h => h.2)) (fun _ h => h.1))
        have n1_ := Aside0.mk (KeepBut.blk hk (g' := gb280) (o := .cells #[.int .i64 t272, .int .i64 t273, .int .i64 t274, .int .i64 t275, .int .i64 t276, .int .i64 t277] 54 (0, 0)) (pB87_ BK280.out) NB280_266.out (by simp))
        have n2_ := Aside0.mk (hb)
        have n3_ := Aside0.mk (hi)
        clear HO_9
        clear BK280
        clear HB
        clear HI266
        have HO_9 := n0_
        have BK280 := n1_
        have HB := n2_
        have HI266 := n3_
        clear n0_ n1_ n2_ n3_
        (try clear hb)
        (try clear hb2)
        (try clear hk)
        (try clear hi)
        refine hK.out _ _ ⟨(bC_ BK280.out 0).trans rfl, (bC_ BK280.out 1).trans rfl, (bC_ BK280.out 2).trans rfl, (bC_ BK280.out 3).trans rfl, (bC_ BK280.out 4).trans rfl, (bC_ BK280.out 5).trans rfl⟩ (fun hHeld => ?_)
        clear hK K
        refine norm_ (a' := ?_) ?_ ?_
        rotate_left
        · show Act.put _ (some 36) _ = _
          simp only [Act.put, List.setIfInBounds_toArray, List.set_cons_zero, List.set_cons_succ, i64_w, i32_w]
          rfl
        refine pure_ (i := 4) (N := some 37) (v := ?_) (a' := ?_) #[true, true, true, true, true, false] rfl rfl z87_3 (fun _ _ _ h => h) (Or.inl ⟨by rfl, ?_⟩) ?_ ?_
        rotate_left
        · intro w'
          go_simp
          with_reducible rfl
        rotate_left
        · simp only [Act.put, List.setIfInBounds_toArray, List.set_cons_zero, List.set_cons_succ, i64_w, i32_w]
          rfl
        refine pure_ (i := 5) (N := some 11) (v := ?_) (a' := ?_) #[true, true, true, true, true, true] rfl rfl z87_3 (fun _ _ _ h => h) (Or.inl ⟨by rfl, ?_⟩) ?_ ?_
        rotate_left
        · intro w'
          go_simp
          with_reducible rfl
        rotate_left
        · simp only [Act.put, List.setIfInBounds_toArray, List.set_cons_zero, List.set_cons_succ, i64_w, i32_w]
          rfl
        refine done_ z87_3 ?_
        try go_wp2
        have n0_ := Aside0.mk (Kd.R_drew HO_9.out)
        have n1_ := Aside0.mk (blk_drew BK280.out)
        have n2_ := Aside0.mk (IsS87.drew HI266.out)
        have n3_ := Aside0.mk (bD_ HB.out)
        clear HO_9
        clear BK280
        clear HI266
        clear HB
        have HO_9 := n0_
        have BK280 := n1_
        have HI266 := n2_
        have HB := n3_
        clear n0_ n1_ n2_ n3_
        refine start_ (n := 17) (S := fun w' => w'.cell? ⟨gb280, 0, none⟩ = some (.int .i64 t272) ∧ w'.cell? ⟨gb280, 1, none⟩ = some (.int .i64 t273) ∧ w'.cell? ⟨gb280, 2, none⟩ = some (.int .i64 t274) ∧ w'.cell? ⟨gb280, 3, none⟩ = some (.int .i64 t275) ∧ w'.cell? ⟨gb280, 4, none⟩ = some (.int .i64 t276) ∧ w'.cell? ⟨gb280, 5, none⟩ = some (.int .i64 t277)) (ds := []) #[false, false, false, false, false, false, false, false, false, false, false, false, false, false, false, false, false] z87_3 rfl rfl ⟨(bC_ BK280.out 0).trans rfl, (bC_ BK280.out 1).trans rfl, (bC_ BK280.out 2).trans rfl, (bC_ BK280.out 3).trans rfl, (bC_ BK280.out 4).trans rfl, (bC_ BK280.out 5).trans rfl⟩ (fun hHeld => ?_); refine with_tabW spec_DrawFindFact.tab7 spec_DrawFindFact.bits7 (fun HT_ HW_ => ?_)
        generalize w38.drew = w39 at HO_9 BK280 HI266 HB hHeld ⊢
        refine pure_ (i := 0) (N := some 38) (v := ?_) (a' := ?_) #[true, false, false, false, false, false, false, false, false, false, false, false, false, false, false, false, false] rfl rfl (any_of HT_.out z87_3) (fun _ _ _ h => h) (Or.inl ⟨by rfl, ?_⟩) ?_ ?_
        rotate_left
        · intro w'
          go_simp
          with_reducible rfl
        rotate_left
        · simp only [Act.put, List.setIfInBounds_toArray, List.set_cons_zero, List.set_cons_succ, i64_w, i32_w]
          rfl
        refine pure_ (i := 1) (N := some 39) (v := ?_) (a' := ?_) #[true, true, false, false, false, false, false, false, false, false, false, false, false, false, false, false, false] rfl rfl (any_of HT_.out z87_3) (fun _ _ _ h => h) (Or.inl ⟨by rfl, ?_⟩) ?_ ?_
        rotate_left
        · intro w'
          go_simp
          with_reducible rfl
        rotate_left
        · simp only [Act.put, List.setIfInBounds_toArray, List.set_cons_zero, List.set_cons_succ, i64_w, i32_w]
          rfl
        refine pure_ (i := 3) (N := some 41) (v := ?_) (a' := ?_) #[true, true, false, true, false, false, false, false, false, false, false, false, false, false, false, false, false] rfl rfl (any_of HT_.out z87_3) (fun _ _ _ h => h) (Or.inl ⟨by rfl, ?_⟩) ?_ ?_
        rotate_left
        · intro w'
          go_simp
          with_reducible rfl
        rotate_left
        · simp only [Act.put, List.setIfInBounds_toArray, List.set_cons_zero, List.set_cons_succ, i64_w, i32_w]
          rfl
        refine pure_ (i := 5) (N := some 43) (v := ?_) (a' := ?_) #[true, true, false, true, false, true, false, false, false, false, false, false, false, false, false, false, false] rfl rfl (any_of HT_.out z87_3) (fun _ _ _ h => h) (Or.inl ⟨by rfl, ?_⟩) ?_ ?_
        rotate_left
        · intro w'
          go_simp
          with_reducible rfl
        rotate_left
        · simp only [Act.put, List.setIfInBounds_toArray, List.set_cons_zero, List.set_cons_succ, i64_w, i32_w]
          rfl
        refine pure_ (i := 7) (N := some 45) (v := ?_) (a' := ?_) #[true, true, false, true, false, true, false, true, false, false, false, false, false, false, false, false, false] rfl rfl (any_of HT_.out z87_3) (fun _ _ _ h => h) (Or.inl ⟨by rfl, ?_⟩) ?_ ?_
        rotate_left
        · intro w'
          go_simp
          with_reducible rfl
        rotate_left
        · simp only [Act.put, List.setIfInBounds_toArray, List.set_cons_zero, List.set_cons_succ, i64_w, i32_w]
          rfl
        refine pure_ (i := 8) (N := some 46) (v := ?_) (a' := ?_) #[true, true, false, true, false, true, false, true, true, false, false, false, false, false, false, false, false] rfl rfl (any_of HT_.out z87_3) (fun _ _ _ h => h) (Or.inl ⟨by rfl, ?_⟩) ?_ ?_
        rotate_left
        · intro w'
          go_simp
          with_reducible rfl
        rotate_left
        · simp only [Act.put, List.setIfInBounds_toArray, List.set_cons_zero, List.set_cons_succ, i64_w, i32_w]
          rfl
        refine take_ (i := 2) (N := some 40) (v := ?_) (a' := ?_) #[true, true, true, true, false, true, false, true, true, false, false, false, false, false, false, false, false] rfl rfl (take_ofW HT_.out HW_.out z87_3) (fun _ _ _ h => h) (Or.inl ⟨by rfl, ?_⟩) hHeld ?_ ?_
        rotate_left
        · rintro w' ⟨s0, s1, s2, s3, s4, s5⟩
          go_simp
          with_reducible rfl
        rotate_left
        · simp only [Act.put, List.setIfInBounds_toArray, List.set_cons_zero, List.set_cons_succ, i64_w, i32_w]
          rfl
        refine take_ (i := 4) (N := some 42) (v := ?_) (a' := ?_) #[true, true, true, true, true, true, false, true, true, false, false, false, false, false, false, false, false] rfl rfl (take_ofW HT_.out HW_.out z87_3) (fun _ _ _ h => h) (Or.inl ⟨by rfl, ?_⟩) hHeld ?_ ?_
        rotate_left
        · rintro w' ⟨s0, s1, s2, s3, s4, s5⟩
          go_simp
          with_reducible rfl
        rotate_left
        · simp only [Act.put, List.setIfInBounds_toArray, List.set_cons_zero, List.set_cons_succ, i64_w, i32_w]
          rfl
        refine take_ (i := 6) (N := some 44) (v := ?_) (a' := ?_) #[true, true, true, true, true, true, true, true, true, false, false, false, false, false, false, false, false] rfl rfl (take_ofW HT_.out HW_.out z87_3) (fun _ _ _ h => h) (Or.inl ⟨by rfl, ?_⟩) hHeld ?_ ?_
        rotate_left
        · rintro w' ⟨s0, s1, s2, s3, s4, s5⟩
          go_simp
          with_reducible rfl
        rotate_left
        · simp only [Act.put, List.setIfInBounds_toArray, List.set_cons_zero, List.set_cons_succ, i64_w, i32_w]
          rfl
        refine one_ (i := 9) (N := some 47) #[true, true, true, true, true, true, true, true, true, true, false, false, false, false, false, false, false] rfl rfl (one_of HT_.out z87_3) (by decide) (fun K hK => ?_)
        refine Kd.R_lit_step (Kd.int .i64) _ 3 ?hg (N := 47) ?hd (xs := ([0, 3, 20, (-1)] : List Int)) (inner := [.int .i64 0, .int .i64 3, .int .i64 20, .int .i64 (-1)]) (ok := fun _ => True) (okp := fun _ => True) ?hr ?hp (fun _ hk => hk) trivial (Below.refl _ _) (Nat.le_refl _) (by simp) ?_; (case hd => rfl); (case hg => rfl); (case hr => first | (go_simp; done) | (go_simp; rfl)); (case hp => exact (Reps.one (show Kd.M (Kd.int .i64) _ _ _ 0 [.int .i64 0] from rfl) (Reps.one (show Kd.M (Kd.int .i64) _ _ _ 3 [.int .i64 3] from rfl) (Reps.one (show Kd.M (Kd.int .i64) _ _ _ 20 [.int .i64 20] from rfl) (Reps.one (show Kd.M (Kd.int .i64) _ _ _ (-1) [.int .i64 (-1)] from rfl) (Reps.none _ _))))))
        intro v301 w40 ho41 hb hg_ hnew_
        clear hg_ hnew_
        (first | rw [← Ny300.out] at ho41 | (simp only [Int.reduceToNat] at ho41; rw [← Ny300.out] at ho41))
        have n0_ := Aside0.mk (Kd.R_below (pR87_ HO_9.out) hb)
        have n1_ := Aside0.mk (Kd.R_lower ho41 (below_size z87_1))
        have n2_ := Aside0.mk (blk_below (g := gb280) (o := .cells #[.int .i64 t272, .int .i64 t273, .int .i64 t274, .int .i64 t275, .int .i64 t276, .int .i64 t277] 54 (0, 0)) (pB87_ BK280.out) hb)
        have n3_ := Aside0.mk (IsS87.below z87_4 hb)
        have n4_ := Aside0.mk (below_step z87_1 hb)
        clear HO_9
        clear BK280
        clear HI266
        clear HB
        have HO_9 := n0_
        have HO302 := n1_
        have BK280 := n2_
        have HI266 := n3_
        have HB := n4_
        clear n0_ n1_ n2_ n3_ n4_
        clear hb ho41
        obtain ⟨Ao42, co42, eo42⟩ := Kd.R_slice HO302.out
        (first | subst eo42 | (injection eo42 with f1_ f2_ f3_; have f4_ := f1_.symm; have f5_ := f3_.symm; clear f1_ f2_ f3_; subst f4_; subst f5_))
        refine hK.out _ _ ⟨(bC_ BK280.out 0).trans rfl, (bC_ BK280.out 1).trans rfl, (bC_ BK280.out 2).trans rfl, (bC_ BK280.out 3).trans rfl, (bC_ BK280.out 4).trans rfl, (bC_ BK280.out 5).trans rfl⟩ (fun hHeld => ?_)
        clear hK K
        refine norm_ (a' := ?_) ?_ ?_
        rotate_left
        · show Act.put _ (some 47) _ = _
          simp only [Act.put, List.setIfInBounds_toArray, List.set_cons_zero, List.set_cons_succ, i64_w, i32_w]
          rfl
        refine one_ (i := 10) (N := some 48) #[true, true, true, true, true, true, true, true, true, true, true, false, false, false, false, false, false] rfl rfl (one_of HT_.out z87_3) (by decide) (fun K hK => ?_)
        refine goes_ Try.func79 z87_3 rfl #[.pointer (some ⟨g266, 0, none⟩), .slice Ao42 y300.length co42] (by rfl) rfl rfl z87_0 ?_
        with_reducible refine (spec_l1Int.calls g266 t263 t298 t299 _ _ y300 t303 t304 t305 w _ ?side1 ?side2 ?side3 ?side4 ?side5 A36.out).mono ?_
        (case side1 => repeat (first | (with_reducible first | exact HI266.out | apply IsS87.alloc | apply IsS87.drewN | apply IsS87.drew | apply IsS87.set_1 | apply IsS87.set_2 | refine IsS87.far ?_ NB266_280.out _) | exact HI266.out))
        (case side2 => repeat (first | (with_reducible first | exact HB.out | apply bA_ | apply bN_ | apply bD_ | refine bS_ ?_ (IsS87.ge HI266.out) | refine bS_ ?_ GE280.out) | exact HB.out))
        (case side3 => repeat (first | exact (Kd.R_reads' HO302.out).2.2 | (with_reducible refine Kd.C_alloc ?_ _) | (with_reducible refine Kd.C_drewN ?_ _) | (with_reducible refine Kd.C_drew ?_)))
        (case side4 => exact (Kd.R_reads' HO302.out).2.1)
        (case side5 => exact far_slice (IsS87.own_ne HI266.out HO302.out (by decide)))
        rintro e w43 ⟨rfl, hi, hb, hk⟩
        refine ⟨_, rfl, ?_⟩
        have n0_ := Aside0.mk (Kd.R_mono (Kd.R_keep (IsS87.apart (show IsS87 w _ g266 t263 t298 t299 from by repeat (first | (with_reducible first | exact HI266.out | apply IsS87.alloc | apply IsS87.drewN | apply IsS87.drew | apply IsS87.set_1 | apply IsS87.set_2 | refine IsS87.far ?_ NB266_280.out _) | exact HI266.out)) (pR87_ HO_9.out) (by decide)) hk (fun _ h => h.2)) (fun _ h => h.1))
        have n1_ := Aside0.mk (KeepBut.blk hk (g' := gb280) (o := .cells #[.int .i64 t272, .int .i64 t273, .int .i64 t274, .int .i64 t275, .int .i64 t276, .int .i64 t277] 54 (0, 0)) (pB87_ BK280.out) NB280_266.out (by simp))
        have n2_ := Aside0.mk (Kd.R_mono (Kd.R_keep (IsS87.apart (show IsS87 w _ g266 t263 t298 t299 from by repeat (first | (with_reducible first | exact HI266.out | apply IsS87.alloc | apply IsS87.drewN | apply IsS87.drew | apply IsS87.set_1 | apply IsS87.set_2 | refine IsS87.far ?_ NB266_280.out _) | exact HI266.out)) (pR87_ HO302.out) (by decide)) hk (fun _ h => h.2)) (fun _ h => h.1))
        have n3_ := Aside0.mk (hb)
        have n4_ := Aside0.mk (hi)
        clear HO_9
        clear BK280
        clear HO302
        clear HB
        clear HI266
        have HO_9 := n0_
        have BK280 := n1_
        have HO302 := n2_
        have HB := n3_
        have HI266 := n4_
        clear n0_ n1_ n2_ n3_ n4_
        (try clear hb)
        (try clear hb2)
        (try clear hk)
        (try clear hi)
        refine hK.out _ _ ⟨(bC_ BK280.out 0).trans rfl, (bC_ BK280.out 1).trans rfl, (bC_ BK280.out 2).trans rfl, (bC_ BK280.out 3).trans rfl, (bC_ BK280.out 4).trans rfl, (bC_ BK280.out 5).trans rfl⟩ (fun hHeld => ?_)
        clear hK K
        refine norm_ (a' := ?_) ?_ ?_
        rotate_left
        · show Act.put _ (some 48) _ = _
          simp only [Act.put, List.setIfInBounds_toArray, List.set_cons_zero, List.set_cons_succ, i64_w, i32_w]
          rfl
        refine pure_ (i := 11) (N := some 2) (v := ?_) (a' := ?_) #[true, true, true, true, true, true, true, true, true, true, true, true, false, false, false, false, false] rfl rfl (any_of HT_.out z87_3) (fun _ _ _ h => h) (Or.inl ⟨by rfl, ?_⟩) ?_ ?_
        rotate_left
        · intro w'
          go_simp
          with_reducible rfl
        rotate_left
        · simp only [Act.put, List.setIfInBounds_toArray, List.set_cons_zero, List.set_cons_succ, i64_w, i32_w]
          rfl
        refine pure_ (i := 12) (N := some 3) (v := ?_) (a' := ?_) #[true, true, true, true, true, true, true, true, true, true, true, true, true, false, false, false, false] rfl rfl (any_of HT_.out z87_3) (fun _ _ _ h => h) (Or.inl ⟨by rfl, ?_⟩) ?_ ?_
        rotate_left
        · intro w'
          go_simp
          with_reducible rfl
        rotate_left
        · simp only [Act.put, List.setIfInBounds_toArray, List.set_cons_zero, List.set_cons_succ, i64_w, i32_w]
          rfl
        refine pure_ (i := 13) (N := some 4) (v := ?_) (a' := ?_) #[true, true, true, true, true, true, true, true, true, true, true, true, true, true, false, false, false] rfl rfl (any_of HT_.out z87_3) (fun _ _ _ h => h) (Or.inl ⟨by rfl, ?_⟩) ?_ ?_
        rotate_left
        · intro w'
          go_simp
          with_reducible rfl
        rotate_left
        · simp only [Act.put, List.setIfInBounds_toArray, List.set_cons_zero, List.set_cons_succ, i64_w, i32_w]
          rfl
        refine pure_ (i := 14) (N := some 5) (v := ?_) (a' := ?_) #[true, true, true, true, true, true, true, true, true, true, true, true, true, true, true, false, false] rfl rfl (any_of HT_.out z87_3) (fun _ _ _ h => h) (Or.inl ⟨by rfl, ?_⟩) ?_ ?_
        rotate_left
        · intro w'
          go_simp
          with_reducible rfl
        rotate_left
        · simp only [Act.put, List.setIfInBounds_toArray, List.set_cons_zero, List.set_cons_succ, i64_w, i32_w]
          rfl
        refine pure_ (i := 15) (N := some 6) (v := ?_) (a' := ?_) #[true, true, true, true, true, true, true, true, true, true, true, true, true, true, true, true, false] rfl rfl (any_of HT_.out z87_3) (fun _ _ _ h => h) (Or.inl ⟨by rfl, ?_⟩) ?_ ?_
        rotate_left
        · intro w'
          go_simp
          with_reducible rfl
        rotate_left
        · simp only [Act.put, List.setIfInBounds_toArray, List.set_cons_zero, List.set_cons_succ, i64_w, i32_w]
          rfl
        refine pure_ (i := 16) (N := some 7) (v := ?_) (a' := ?_) #[true, true, true, true, true, true, true, true, true, true, true, true, true, true, true, true, true] rfl rfl (any_of HT_.out z87_3) (fun _ _ _ h => h) (Or.inl ⟨by rfl, ?_⟩) ?_ ?_
        rotate_left
        · intro w'
          go_simp
          with_reducible rfl
        rotate_left
        · simp only [Act.put, List.setIfInBounds_toArray, List.set_cons_zero, List.set_cons_succ, i64_w, i32_w]
          rfl
        refine done_ (done_of HT_.out z87_3) ?_
        try go_wp2
        refine bodyPost_ret (results_list (rs := [.tmp 2, .tmp 3, .tmp 4, .tmp 5, .tmp 6, .tmp 7]) rfl (by simp) (.tmp (.tmp (.tmp (.tmp (.tmp (.tmp .nil))))))) rfl ?_
        exact ⟨_, by first | rfl | (simp [errW_none, errW_some] <;> rfl) | (simp [*, errW_none, errW_some] <;> rfl), by (with_reducible repeat (first | apply Kd.R_alloc | apply Kd.R_drewN | apply Kd.R_drew)); exact Kd.R_mono HO_9.out (fun _ hk => trivial), by repeat (first | (with_reducible first | exact HB.out | apply bA_ | apply bN_ | apply bD_ | refine bS_ ?_ (IsS87.ge HI266.out) | refine bS_ ?_ GE280.out) | exact HB.out)⟩

/-! ### spec_Max: function 89 -/
def spec_Max.f (a0 : Int) (a1 : Int) : Option (Int) := if a1 > a0 then (some a1) else (some a0)
set_option maxHeartbeats 8000000 in
set_option maxRecDepth 100000 in
theorem spec_Max.calls (a0 : Int) (a1 : Int) (r : Int) (w : World) (h : spec_Max.f a0 a1 = some r) :
    Calls Try.prog 89 #[.int .i64 a0, .int .i64 a1] w fun e w' => e = .returned (.int .i64 r) ∧ Drawn0 w w' := by
  have H : (if a1 > a0 then (some a1) else (some a0)) = some r := h
  clear h
  by_cases c3 : a1 > a0
  · rw [if_pos c3] at H
    have c3b0 : decide (a0 < a1) = true := decide_eq_true c3
    clear c3
    obtain rfl := Option.some.inj H
    go_enter Try.func89, Try.ntmps89
    go_wp2
    go_ret
    exact ⟨by first | rfl | (simp; done) | (simp [*]; done), by repeat (first | exact Drawn0.refl _ | apply Drawn0.step)⟩
  · rw [if_neg c3] at H
    have c3b0 : decide (a0 < a1) = false := decide_eq_false c3
    clear c3
    obtain rfl := Option.some.inj H
    go_enter Try.func89, Try.ntmps89
    go_wp2
    go_ret
    exact ⟨by first | rfl | (simp; done) | (simp [*]; done), by repeat (first | exact Drawn0.refl _ | apply Drawn0.step)⟩

end Go.Proofs.Ytlcmjdkbeckdnaa.XFnAgreement
