/- Written by this session's own program (wip/xprint, which runs over the kit's print): what the functions that the law reaches come to, each proved; and the law's row. Conditions: none. -/
import Derived.Test.YtlcmjdkbeckdnaaUFnAgreementx0
import Derived.Test.YtlcmjdkbeckdnaaUFnAgreementx1
import Derived.Test.YtlcmjdkbeckdnaaUFnAgreementx6
import Derived.Test.YtlcmjdkbeckdnaaUFnAgreementx8
namespace Go.Proofs.Ytlcmjdkbeckdnaa.XFnAgreement
open Go.RowKit Go.Proofs.YtlcmjdkbeckdnaaW.PrintWords Go.Proofs.YtlcmjdkbeckdnaaW.PrintLast Go.Proofs.YtlcmjdkbeckdnaaW.PrintMore
attribute [local go_sem] max2_int min2_int max_two min_two max_three min_three max_four min_four   -- for this text's walks alone
set_option linter.unusedVariables false
set_option linter.unusedSimpArgs false

/-! ### spec_DrawWhoState: function 74 -/
def spec_DrawWhoState.l0 : Nat → List (S54) → Int → Int → Int → Int → Int → Int → List Int → Int → Int → Option ((List (S54)) × Int × Int × Int × Int × Int)
  | 0, _, _, _, _, _, _, _, _, _, _ => none
  | k + 1, x8, x9, x10, x11, x12, x13, x15, x318000, x318001, x318002 => if x15 > 0 then ((spec_l1Below.f x318000 x318001 x318002 5).bind fun bt321 => ((spec_l1Below.f x318000 bt321.2.1 bt321.2.2 4).bind fun bt324 => ((spec_Max.f 0 (wrap64 (x12 - bt324.1))).bind fun t327 => ((spec_l1Below.f x318000 bt324.2.1 bt324.2.2 9).bind fun bt328 => ((spec_PutFact.f k x8 x9 x10 x11 bt321.1 t327 (wrap64 (x12 + bt328.1))).bind fun bt331 => (if bt331.2 = true then (spec_DrawWhoState.l0 k bt331.1 x9 x10 x11 x12 x13 (wrap64 (x15 - 1)) x318000 bt328.2.1 bt328.2.2) else (spec_DrawWhoState.l0 k x8 x9 x10 x11 x12 x13 (wrap64 (x15 - 1)) x318000 bt328.2.1 bt328.2.2))))))) else (some (x8, x9, x10, x11, x12, x13))
def spec_DrawWhoState.f (k : Nat) (l0 : List Int) : Option ((List (S54)) × Int × Int × Int × Int × Int) := (spec_DrawFindFact.f k l0).bind fun bt306 => ((spec_l1New.f k l0).bind fun bt314 => ((spec_l1Below.f bt314.1 bt314.2.1 bt314.2.2 4).bind fun bt318 => (spec_DrawWhoState.l0 k bt306.1 bt306.2.1 bt306.2.2.1 bt306.2.2.2.1 bt306.2.2.2.2.1 bt306.2.2.2.2.2 bt318.1 bt314.1 bt318.2.1 bt318.2.2)))
theorem pR74_ {P Q : Prop} (h : P) (g : P → Q := by intro h_; (with_reducible repeat (first | apply Kd.R_alloc | apply Kd.R_drewN | apply Kd.R_drew)); exact h_) : Q := g h
theorem z74_0 {Q : Prop} (g : Q := by (try simp only [List.map_toArray, List.map_cons, List.map_nil]); first | done | rfl | (simp only [List.length_drop, List.length_take]; rfl)) : Q := g
theorem z74_1 {Q : Prop} (g : Q := by repeat (first | (with_reducible first | exact HB.out | apply bA_ | apply bN_ | apply bD_ | refine bS_ ?_ (IsS87.ge HI317.out)) | exact HB.out)) : Q := g
set_option maxHeartbeats 8000000 in
set_option maxRecDepth 100000 in
theorem spec_DrawWhoState.calls (k : Nat) (A0 : Option Addr) (c0 : Nat) (l0 : List Int) (r1 : List (S54)) (r2 : Int) (r3 : Int) (r4 : Int) (r5 : Int) (r6 : Int) (w : World) (hr0 : Kd.C (Kd.int .u8) w A0 l0.length l0) (hc0 : l0.length ≤ c0) (h : spec_DrawWhoState.f k l0 = some (r1, r2, r3, r4, r5, r6)) :
    Calls Try.prog 74 #[.slice A0 l0.length c0] w fun e w' => ∃ v0_ : Value, e = .returned (.tuple #[v0_, .int .i64 r2, .int .i64 r3, .int .i64 r4, .int .i64 r5, .int .i64 r6]) ∧ Kd.R k54 54 w' w.heap.size (fun _ => True) v0_ r1 ∧ Below w.heap.size w w' := by
  have hu54 := Try.underlying54
  have HR0 := Aside0.mk hr0
  have HC0 := Aside0.mk hc0
  clear hr0 hc0
  have HB := Aside0.mk (Below.refl w.heap.size w)
  have H : ((spec_DrawFindFact.f k l0).bind fun bt306 => ((spec_l1New.f k l0).bind fun bt314 => ((spec_l1Below.f bt314.1 bt314.2.1 bt314.2.2 4).bind fun bt318 => (spec_DrawWhoState.l0 k bt306.1 bt306.2.1 bt306.2.2.1 bt306.2.2.2.1 bt306.2.2.2.2.1 bt306.2.2.2.2.2 bt318.1 bt314.1 bt318.2.1 bt318.2.2)))) = some (r1, r2, r3, r4, r5, r6) := h
  clear h
  replace H := Option.bind_eq_some_iff.mp H
  obtain ⟨⟨t306, t307, t308, t309, t310, t311⟩, A20, H⟩ := H
  replace H : ((spec_l1New.f k l0).bind fun bt314 => ((spec_l1Below.f bt314.1 bt314.2.1 bt314.2.2 4).bind fun bt318 => (spec_DrawWhoState.l0 k t306 t307 t308 t309 t310 t311 bt318.1 bt314.1 bt318.2.1 bt318.2.2))) = some (r1, r2, r3, r4, r5, r6) := H
  have A2 := Aside0.mk A20
  clear A20
  replace H := Option.bind_eq_some_iff.mp H
  obtain ⟨⟨t314, t315, t316⟩, A30, H⟩ := H
  replace H : ((spec_l1Below.f t314 t315 t316 4).bind fun bt318 => (spec_DrawWhoState.l0 k t306 t307 t308 t309 t310 t311 bt318.1 t314 bt318.2.1 bt318.2.2)) = some (r1, r2, r3, r4, r5, r6) := H
  have A3 := Aside0.mk A30
  clear A30
  replace H := Option.bind_eq_some_iff.mp H
  obtain ⟨⟨t318, t319, t320⟩, A40, H⟩ := H
  replace H : (spec_DrawWhoState.l0 k t306 t307 t308 t309 t310 t311 t318 t314 t319 t320) = some (r1, r2, r3, r4, r5, r6) := H
  have A4 := Aside0.mk A40
  clear A40
  have H' := Aside0.mk H
  clear H
  go_enter Try.func74, Try.ntmps74
  go_wp2_with (first | ((with_reducible refine gate_callee (f := 87) rfl ?_); refine goesL_ (some 20) rfl rfl Try.func87 (by kernel_rfl) rfl #[.slice A0 l0.length c0] rfl z74_0 ?_; (with_reducible refine (spec_DrawFindFact.calls k _ _ l0 t306 t307 t308 t309 t310 t311 _ ?side1 ?side2 A2.out).mono ?_); (case side1 => repeat (first | exact HR0.out | (with_reducible refine Kd.C_alloc ?_ _) | (with_reducible refine Kd.C_drewN ?_ _) | (with_reducible refine Kd.C_drew ?_))); (case side2 => exact HC0.out); rintro e w5 ⟨v312, rfl, ho0, hb⟩; refine ⟨_, rfl, ?_⟩; have n0_ := Aside0.mk (Kd.R_lower ho0 (below_size (by repeat (first | (with_reducible first | exact HB.out | apply bA_ | apply bN_ | apply bD_) | exact HB.out)))); have n1_ := Aside0.mk (below_step (by repeat (first | (with_reducible first | exact HB.out | apply bA_ | apply bN_ | apply bD_) | exact HB.out)) hb); clear HB; have HO313 := n0_; have HB := n1_; clear n0_ n1_; (try clear hb); (try clear hb2); (try clear hk); (try clear hi); (try clear ho0)) | ((with_reducible refine gate_callee (f := 71) rfl ?_); refine goesL_ (some 28) rfl rfl Try.func71 (by kernel_rfl) rfl #[.slice A0 l0.length c0] rfl z74_0 ?_; (with_reducible refine (spec_l1New.calls k _ _ l0 t314 t315 t316 w _ ?side1 ?side2 ?side3 A3.out).mono ?_); (case side1 => repeat (first | (with_reducible first | exact HB.out | apply bA_ | apply bN_ | apply bD_) | exact HB.out)); (case side2 => exact HR0.out); (case side3 => exact HC0.out); rintro e w6 ⟨g317, rfl, hi, hb, hb2⟩; refine ⟨_, rfl, ?_⟩; have n0_ := Aside0.mk (Kd.R_below (pR74_ HO313.out) hb2); have n1_ := Aside0.mk (hb); have n2_ := Aside0.mk (hi); clear HO313; clear HB; have HO313 := n0_; have HB := n1_; have HI317 := n2_; clear n0_ n1_ n2_; (try clear hb); (try clear hb2); (try clear hk); (try clear hi)) | ((with_reducible refine gate_callee (f := 85) rfl ?_); refine goesL_ (some 30) rfl rfl Try.func85 (by kernel_rfl) rfl #[.pointer (some ⟨g317, 0, none⟩), .int .i64 4] rfl z74_0 ?_; (with_reducible refine (spec_l1Below.calls g317 t314 t315 t316 4 t318 t319 t320 w _ ?side1 ?side2 A4.out).mono ?_); (case side1 => repeat (first | (with_reducible first | exact HI317.out | apply IsS87.alloc | apply IsS87.drewN | apply IsS87.drew | apply IsS87.set_1 | apply IsS87.set_2) | exact HI317.out)); (case side2 => repeat (first | (with_reducible first | exact HB.out | apply bA_ | apply bN_ | apply bD_ | refine bS_ ?_ (IsS87.ge HI317.out)) | exact HB.out)); rintro e w7 ⟨rfl, hi, hb, hk⟩; refine ⟨_, rfl, ?_⟩; have n0_ := Aside0.mk (Kd.R_mono (Kd.R_keep (IsS87.apart (show IsS87 w _ g317 t314 t315 t316 from by repeat (first | (with_reducible first | exact HI317.out | apply IsS87.alloc | apply IsS87.drewN | apply IsS87.drew | apply IsS87.set_1 | apply IsS87.set_2) | exact HI317.out)) (pR74_ HO313.out) (by decide)) hk (fun _ h => h.2)) (fun _ h => h.1)); have n1_ := Aside0.mk (hb); have n2_ := Aside0.mk (hi); clear HO313; clear HB; clear HI317; have HO313 := n0_; have HB := n1_; have HI317 := n2_; clear n0_ n1_ n2_; (try clear hb); (try clear hb2); (try clear hk); (try clear hi)))
  go_loopg [8, 15] k (fun kq v8 v15 w' => ∃ (x8_1 : List (S54)) (x15_1 : Int) (x318001_1 : Int) (x318002_1 : Int), v15 = .int .i64 x15_1 ∧ Aside0 (spec_DrawWhoState.l0 kq x8_1 t307 t308 t309 t310 t311 x15_1 t314 x318001_1 x318002_1 = some (r1, r2, r3, r4, r5, r6)) ∧ Aside0 (kq ≤ k) ∧ Aside0 (Kd.R k54 54 w' w.heap.size (fun _ => True) v8 x8_1) ∧ Aside0 (IsS87 w w' g317 t314 x318001_1 x318002_1) ∧ Aside0 (Below w.heap.size w w'))
  case atStart => exact ⟨(t306), (t318), (t319), (t320), (by first | rfl | (simp; done) | (simp [*]; done)), H', ⟨Nat.le_refl _⟩, ⟨by (with_reducible repeat (first | apply Kd.R_alloc | apply Kd.R_drewN | apply Kd.R_drew)); exact HO313.out⟩, ⟨by repeat (first | (with_reducible first | exact HI317.out | apply IsS87.alloc | apply IsS87.drewN | apply IsS87.drew | apply IsS87.set_1 | apply IsS87.set_2) | exact HI317.out)⟩, ⟨by repeat (first | (with_reducible first | exact HB.out | apply bA_ | apply bN_ | apply bD_ | refine bS_ ?_ (IsS87.ge HI317.out)) | exact HB.out)⟩⟩
  case round =>
    clear H'
    try clear p2
    try clear c7
    obtain ⟨x8_1, x15_1, x318001_1, x318002_1, rfl, HA, HK1, HO_8, HI317, HB⟩ := hrel
    cases gk with
    | zero => exact absurd HA.out (by simp [spec_DrawWhoState.l0])
    | succ k1 =>
      have H := HA.out
      clear HA
      simp only [spec_DrawWhoState.l0] at H
      by_cases c8 : x15_1 > 0
      · rw [if_pos c8] at H
        have c8b0 : decide (0 < x15_1) = true := decide_eq_true c8
        clear c8
        replace H := Option.bind_eq_some_iff.mp H
        obtain ⟨⟨t321, t322, t323⟩, A90, H⟩ := H
        replace H : ((spec_l1Below.f t314 t322 t323 4).bind fun bt324 => ((spec_Max.f 0 (wrap64 (t310 - bt324.1))).bind fun t327 => ((spec_l1Below.f t314 bt324.2.1 bt324.2.2 9).bind fun bt328 => ((spec_PutFact.f k1 x8_1 t307 t308 t309 t321 t327 (wrap64 (t310 + bt328.1))).bind fun bt331 => (if bt331.2 = true then (spec_DrawWhoState.l0 k1 bt331.1 t307 t308 t309 t310 t311 (wrap64 (x15_1 - 1)) t314 bt328.2.1 bt328.2.2) else (spec_DrawWhoState.l0 k1 x8_1 t307 t308 t309 t310 t311 (wrap64 (x15_1 - 1)) t314 bt328.2.1 bt328.2.2)))))) = some (r1, r2, r3, r4, r5, r6) := H
        have A9 := Aside0.mk A90
        clear A90
        replace H := Option.bind_eq_some_iff.mp H
        obtain ⟨⟨t324, t325, t326⟩, A100, H⟩ := H
        replace H : ((spec_Max.f 0 (wrap64 (t310 - t324))).bind fun t327 => ((spec_l1Below.f t314 t325 t326 9).bind fun bt328 => ((spec_PutFact.f k1 x8_1 t307 t308 t309 t321 t327 (wrap64 (t310 + bt328.1))).bind fun bt331 => (if bt331.2 = true then (spec_DrawWhoState.l0 k1 bt331.1 t307 t308 t309 t310 t311 (wrap64 (x15_1 - 1)) t314 bt328.2.1 bt328.2.2) else (spec_DrawWhoState.l0 k1 x8_1 t307 t308 t309 t310 t311 (wrap64 (x15_1 - 1)) t314 bt328.2.1 bt328.2.2))))) = some (r1, r2, r3, r4, r5, r6) := H
        have A10 := Aside0.mk A100
        clear A100
        replace H := Option.bind_eq_some_iff.mp H
        obtain ⟨t327, A110, H⟩ := H
        replace H : ((spec_l1Below.f t314 t325 t326 9).bind fun bt328 => ((spec_PutFact.f k1 x8_1 t307 t308 t309 t321 t327 (wrap64 (t310 + bt328.1))).bind fun bt331 => (if bt331.2 = true then (spec_DrawWhoState.l0 k1 bt331.1 t307 t308 t309 t310 t311 (wrap64 (x15_1 - 1)) t314 bt328.2.1 bt328.2.2) else (spec_DrawWhoState.l0 k1 x8_1 t307 t308 t309 t310 t311 (wrap64 (x15_1 - 1)) t314 bt328.2.1 bt328.2.2)))) = some (r1, r2, r3, r4, r5, r6) := H
        have A11 := Aside0.mk A110
        clear A110
        replace H := Option.bind_eq_some_iff.mp H
        obtain ⟨⟨t328, t329, t330⟩, A120, H⟩ := H
        replace H : ((spec_PutFact.f k1 x8_1 t307 t308 t309 t321 t327 (wrap64 (t310 + t328))).bind fun bt331 => (if bt331.2 = true then (spec_DrawWhoState.l0 k1 bt331.1 t307 t308 t309 t310 t311 (wrap64 (x15_1 - 1)) t314 t329 t330) else (spec_DrawWhoState.l0 k1 x8_1 t307 t308 t309 t310 t311 (wrap64 (x15_1 - 1)) t314 t329 t330))) = some (r1, r2, r3, r4, r5, r6) := H
        have A12 := Aside0.mk A120
        clear A120
        replace H := Option.bind_eq_some_iff.mp H
        obtain ⟨⟨t331, t334⟩, A130, H⟩ := H
        replace H : (if t334 = true then (spec_DrawWhoState.l0 k1 t331 t307 t308 t309 t310 t311 (wrap64 (x15_1 - 1)) t314 t329 t330) else (spec_DrawWhoState.l0 k1 x8_1 t307 t308 t309 t310 t311 (wrap64 (x15_1 - 1)) t314 t329 t330)) = some (r1, r2, r3, r4, r5, r6) := H
        have A13 := Aside0.mk A130
        clear A130
        by_cases c14 : t334 = true
        · subst c14
          have H1 : (spec_DrawWhoState.l0 k1 t331 t307 t308 t309 t310 t311 (wrap64 (x15_1 - 1)) t314 t329 t330) = some (r1, r2, r3, r4, r5, r6) := by rw [if_pos rfl] at H; exact H
          clear H
          have H := H1
          clear H1
          have H' := Aside0.mk H
          clear H
          go_wp2_with (first | ((with_reducible refine gate_callee (f := 85) rfl ?_); refine goesL_ (some 41) rfl rfl Try.func85 (by kernel_rfl) rfl #[.pointer (some ⟨g317, 0, none⟩), .int .i64 5] rfl z74_0 ?_; (with_reducible refine (spec_l1Below.calls g317 t314 x318001_1 x318002_1 5 t321 t322 t323 w _ ?side1 ?side2 A9.out).mono ?_); (case side1 => repeat (first | (with_reducible first | exact HI317.out | apply IsS87.alloc | apply IsS87.drewN | apply IsS87.drew | apply IsS87.set_1 | apply IsS87.set_2) | exact HI317.out)); (case side2 => repeat (first | (with_reducible first | exact HB.out | apply bA_ | apply bN_ | apply bD_ | refine bS_ ?_ (IsS87.ge HI317.out)) | exact HB.out)); rintro e w15 ⟨rfl, hi, hb, hk⟩; refine ⟨_, rfl, ?_⟩; have n0_ := Aside0.mk (Kd.R_mono (Kd.R_keep (IsS87.apart (show IsS87 w _ g317 t314 x318001_1 x318002_1 from by repeat (first | (with_reducible first | exact HI317.out | apply IsS87.alloc | apply IsS87.drewN | apply IsS87.drew | apply IsS87.set_1 | apply IsS87.set_2) | exact HI317.out)) (pR74_ HO_8.out) (by decide)) hk (fun _ h => h.2)) (fun _ h => h.1)); have n1_ := Aside0.mk (hb); have n2_ := Aside0.mk (hi); clear HO_8; clear HB; clear HI317; have HO_8 := n0_; have HB := n1_; have HI317 := n2_; clear n0_ n1_ n2_; (try clear hb); (try clear hb2); (try clear hk); (try clear hi)) | ((with_reducible refine gate_callee (f := 85) rfl ?_); refine goesL_ (some 44) rfl rfl Try.func85 (by kernel_rfl) rfl #[.pointer (some ⟨g317, 0, none⟩), .int .i64 4] rfl z74_0 ?_; (with_reducible refine (spec_l1Below.calls g317 t314 t322 t323 4 t324 t325 t326 w _ ?side1 ?side2 A10.out).mono ?_); (case side1 => repeat (first | (with_reducible first | exact HI317.out | apply IsS87.alloc | apply IsS87.drewN | apply IsS87.drew | apply IsS87.set_1 | apply IsS87.set_2) | exact HI317.out)); (case side2 => repeat (first | (with_reducible first | exact HB.out | apply bA_ | apply bN_ | apply bD_ | refine bS_ ?_ (IsS87.ge HI317.out)) | exact HB.out)); rintro e w16 ⟨rfl, hi, hb, hk⟩; refine ⟨_, rfl, ?_⟩; have n0_ := Aside0.mk (Kd.R_mono (Kd.R_keep (IsS87.apart (show IsS87 w _ g317 t314 t322 t323 from by repeat (first | (with_reducible first | exact HI317.out | apply IsS87.alloc | apply IsS87.drewN | apply IsS87.drew | apply IsS87.set_1 | apply IsS87.set_2) | exact HI317.out)) (pR74_ HO_8.out) (by decide)) hk (fun _ h => h.2)) (fun _ h => h.1)); have n1_ := Aside0.mk (hb); have n2_ := Aside0.mk (hi); clear HO_8; clear HB; clear HI317; have HO_8 := n0_; have HB := n1_; have HI317 := n2_; clear n0_ n1_ n2_; (try clear hb); (try clear hb2); (try clear hk); (try clear hi)) | ((with_reducible refine gate_callee (f := 89) rfl ?_); refine goesL_ (some 46) rfl rfl Try.func89 (by kernel_rfl) rfl #[.int .i64 0, .int .i64 (wrap64 (t310 - t324))] rfl z74_0 ?_; (with_reducible refine (spec_Max.calls 0 (wrap64 (t310 - t324)) t327 _ A11.out).mono ?_); rintro e w' ⟨rfl, ⟨nd, rfl⟩⟩; refine ⟨_, rfl, ?_⟩) | ((with_reducible refine gate_callee (f := 85) rfl ?_); refine goesL_ (some 49) rfl rfl Try.func85 (by kernel_rfl) rfl #[.pointer (some ⟨g317, 0, none⟩), .int .i64 9] rfl z74_0 ?_; (with_reducible refine (spec_l1Below.calls g317 t314 t325 t326 9 t328 t329 t330 w _ ?side1 ?side2 A12.out).mono ?_); (case side1 => repeat (first | (with_reducible first | exact HI317.out | apply IsS87.alloc | apply IsS87.drewN | apply IsS87.drew | apply IsS87.set_1 | apply IsS87.set_2) | exact HI317.out)); (case side2 => repeat (first | (with_reducible first | exact HB.out | apply bA_ | apply bN_ | apply bD_ | refine bS_ ?_ (IsS87.ge HI317.out)) | exact HB.out)); rintro e w17 ⟨rfl, hi, hb, hk⟩; refine ⟨_, rfl, ?_⟩; have n0_ := Aside0.mk (Kd.R_mono (Kd.R_keep (IsS87.apart (show IsS87 w _ g317 t314 t325 t326 from by repeat (first | (with_reducible first | exact HI317.out | apply IsS87.alloc | apply IsS87.drewN | apply IsS87.drew | apply IsS87.set_1 | apply IsS87.set_2) | exact HI317.out)) (pR74_ HO_8.out) (by decide)) hk (fun _ h => h.2)) (fun _ h => h.1)); have n1_ := Aside0.mk (hb); have n2_ := Aside0.mk (hi); clear HO_8; clear HB; clear HI317; have HO_8 := n0_; have HB := n1_; have HI317 := n2_; clear n0_ n1_ n2_; (try clear hb); (try clear hb2); (try clear hk); (try clear hi); obtain ⟨Ao18, co18, eo18⟩ := Kd.R_slice HO_8.out; subst eo18) | ((with_reducible refine gate_callee (f := 88) rfl ?_); refine goesL_ (some 52) rfl rfl Try.func88 (by kernel_rfl) rfl #[.slice Ao18 x8_1.length co18, .agg #[.int .i64 t307, .int .i64 t308, .int .i64 t309, .int .i64 t321, .int .i64 t327, .int .i64 (wrap64 (t310 + t328))]] rfl z74_0 ?_; (with_reducible refine (spec_PutFact.calls k1 _ _ x8_1 t307 t308 t309 t321 t327 (wrap64 (t310 + t328)) t331 true _ ?side1 ?side2 A13.out).mono ?_); (case side1 => repeat (first | exact (Kd.R_reads' HO_8.out).2.2 | (with_reducible refine Kd.C_alloc ?_ _) | (with_reducible refine Kd.C_drewN ?_ _) | (with_reducible refine Kd.C_drew ?_))); (case side2 => exact (Kd.R_reads' HO_8.out).2.1); rintro e w19 ⟨v332, rfl, ho0, hb⟩; refine ⟨_, rfl, ?_⟩; have n0_ := Aside0.mk (Kd.R_elder' (pR74_ HO_8.out) (Kd.R_base ho0) hb); have n1_ := Aside0.mk (Kd.R_lower (Kd.R_new' ho0 (Kd.R_lt (pR74_ HO_8.out))) (below_size z74_1)); have n2_ := Aside0.mk (IsS87.below (by repeat (first | (with_reducible first | exact HI317.out | apply IsS87.alloc | apply IsS87.drewN | apply IsS87.drew | apply IsS87.set_1 | apply IsS87.set_2) | exact HI317.out)) hb); have n3_ := Aside0.mk (below_step z74_1 hb); clear HO_8; clear HI317; clear HB; have HO_8 := n0_; have HO333 := n1_; have HI317 := n2_; have HB := n3_; clear n0_ n1_ n2_ n3_; (try clear hb); (try clear hb2); (try clear hk); (try clear hi); (try clear ho0)))
          go_roundg k1
          case measure => have := HK1.out; omega
          case rel => exact ⟨(t331), (wrap64 (x15_1 - 1)), (t329), (t330), (by first | rfl | (simp; done) | (simp [*]; done)), H', ⟨by have := HK1.out; omega⟩, ⟨by (with_reducible repeat (first | apply Kd.R_alloc | apply Kd.R_drewN | apply Kd.R_drew)); exact Kd.R_mono HO333.out (fun _ hk => trivial)⟩, ⟨by repeat (first | (with_reducible first | exact HI317.out | apply IsS87.alloc | apply IsS87.drewN | apply IsS87.drew | apply IsS87.set_1 | apply IsS87.set_2) | exact HI317.out)⟩, ⟨by repeat (first | (with_reducible first | exact HB.out | apply bA_ | apply bN_ | apply bD_ | refine bS_ ?_ (IsS87.ge HI317.out)) | exact HB.out)⟩⟩
        · replace c14 := Bool.eq_false_iff.mpr c14
          subst c14
          have H1 : (spec_DrawWhoState.l0 k1 x8_1 t307 t308 t309 t310 t311 (wrap64 (x15_1 - 1)) t314 t329 t330) = some (r1, r2, r3, r4, r5, r6) := by rw [if_neg (show ¬ (false = true) by decide)] at H; exact H
          clear H
          have H := H1
          clear H1
          have H' := Aside0.mk H
          clear H
          go_wp2_with (first | ((with_reducible refine gate_callee (f := 85) rfl ?_); refine goesL_ (some 41) rfl rfl Try.func85 (by kernel_rfl) rfl #[.pointer (some ⟨g317, 0, none⟩), .int .i64 5] rfl z74_0 ?_; (with_reducible refine (spec_l1Below.calls g317 t314 x318001_1 x318002_1 5 t321 t322 t323 w _ ?side1 ?side2 A9.out).mono ?_); (case side1 => repeat (first | (with_reducible first | exact HI317.out | apply IsS87.alloc | apply IsS87.drewN | apply IsS87.drew | apply IsS87.set_1 | apply IsS87.set_2) | exact HI317.out)); (case side2 => repeat (first | (with_reducible first | exact HB.out | apply bA_ | apply bN_ | apply bD_ | refine bS_ ?_ (IsS87.ge HI317.out)) | exact HB.out)); rintro e w20 ⟨rfl, hi, hb, hk⟩; refine ⟨_, rfl, ?_⟩; have n0_ := Aside0.mk (Kd.R_mono (Kd.R_keep (IsS87.apart (show IsS87 w _ g317 t314 x318001_1 x318002_1 from by repeat (first | (with_reducible first | exact HI317.out | apply IsS87.alloc | apply IsS87.drewN | apply IsS87.drew | apply IsS87.set_1 | apply IsS87.set_2) | exact HI317.out)) (pR74_ HO_8.out) (by decide)) hk (fun _ h => h.2)) (fun _ h => h.1)); have n1_ := Aside0.mk (hb); have n2_ := Aside0.mk (hi); clear HO_8; clear HB; clear HI317; have HO_8 := n0_; have HB := n1_; have HI317 := n2_; clear n0_ n1_ n2_; (try clear hb); (try clear hb2); (try clear hk); (try clear hi)) | ((with_reducible refine gate_callee (f := 85) rfl ?_); refine goesL_ (some 44) rfl rfl Try.func85 (by kernel_rfl) rfl #[.pointer (some ⟨g317, 0, none⟩), .int .i64 4] rfl z74_0 ?_; (with_reducible refine (spec_l1Below.calls g317 t314 t322 t323 4 t324 t325 t326 w _ ?side1 ?side2 A10.out).mono ?_); (case side1 => repeat (first | (with_reducible first | exact HI317.out | apply IsS87.alloc | apply IsS87.drewN | apply IsS87.drew | apply IsS87.set_1 | apply IsS87.set_2) | exact HI317.out)); (case side2 => repeat (first | (with_reducible first | exact HB.out | apply bA_ | apply bN_ | apply bD_ | refine bS_ ?_ (IsS87.ge HI317.out)) | exact HB.out)); rintro e w21 ⟨rfl, hi, hb, hk⟩; refine ⟨_, rfl, ?_⟩; have n0_ := Aside0.mk (Kd.R_mono (Kd.R_keep (IsS87.apart (show IsS87 w _ g317 t314 t322 t323 from by repeat (first | (with_reducible first | exact HI317.out | apply IsS87.alloc | apply IsS87.drewN | apply IsS87.drew | apply IsS87.set_1 | apply IsS87.set_2) | exact HI317.out)) (pR74_ HO_8.out) (by decide)) hk (fun _ h => h.2)) (fun _ h => h.1)); have n1_ := Aside0.mk (hb); have n2_ := Aside0.mk (hi); clear HO_8; clear HB; clear HI317; have HO_8 := n0_; have HB := n1_; have HI317 := n2_; clear n0_ n1_ n2_; (try clear hb); (try clear hb2); (try clear hk); (try clear hi)) | ((with_reducible refine gate_callee (f := 89) rfl ?_); refine goesL_ (some 46) rfl rfl Try.func89 (by kernel_rfl) rfl #[.int .i64 0, .int .i64 (wrap64 (t310 - t324))] rfl z74_0 ?_; (with_reducible refine (spec_Max.calls 0 (wrap64 (t310 - t324)) t327 _ A11.out).mono ?_); rintro e w' ⟨rfl, ⟨nd, rfl⟩⟩; refine ⟨_, rfl, ?_⟩) | ((with_reducible refine gate_callee (f := 85) rfl ?_); refine goesL_ (some 49) rfl rfl Try.func85 (by kernel_rfl) rfl #[.pointer (some ⟨g317, 0, none⟩), .int .i64 9] rfl z74_0 ?_; (with_reducible refine (spec_l1Below.calls g317 t314 t325 t326 9 t328 t329 t330 w _ ?side1 ?side2 A12.out).mono ?_); (case side1 => repeat (first | (with_reducible first | exact HI317.out | apply IsS87.alloc | apply IsS87.drewN | apply IsS87.drew | apply IsS87.set_1 | apply IsS87.set_2) | exact HI317.out)); (case side2 => repeat (first | (with_reducible first | exact HB.out | apply bA_ | apply bN_ | apply bD_ | refine bS_ ?_ (IsS87.ge HI317.out)) | exact HB.out)); rintro e w22 ⟨rfl, hi, hb, hk⟩; refine ⟨_, rfl, ?_⟩; have n0_ := Aside0.mk (Kd.R_mono (Kd.R_keep (IsS87.apart (show IsS87 w _ g317 t314 t325 t326 from by repeat (first | (with_reducible first | exact HI317.out | apply IsS87.alloc | apply IsS87.drewN | apply IsS87.drew | apply IsS87.set_1 | apply IsS87.set_2) | exact HI317.out)) (pR74_ HO_8.out) (by decide)) hk (fun _ h => h.2)) (fun _ h => h.1)); have n1_ := Aside0.mk (hb); have n2_ := Aside0.mk (hi); clear HO_8; clear HB; clear HI317; have HO_8 := n0_; have HB := n1_; have HI317 := n2_; clear n0_ n1_ n2_; (try clear hb); (try clear hb2); (try clear hk); (try clear hi); obtain ⟨Ao23, co23, eo23⟩ := Kd.R_slice HO_8.out; subst eo23) | ((with_reducible refine gate_callee (f := 88) rfl ?_); refine goesL_ (some 52) rfl rfl Try.func88 (by kernel_rfl) rfl #[.slice Ao23 x8_1.length co23, .agg #[.int .i64 t307, .int .i64 t308, .int .i64 t309, .int .i64 t321, .int .i64 t327, .int .i64 (wrap64 (t310 + t328))]] rfl z74_0 ?_; (with_reducible refine (spec_PutFact.calls k1 _ _ x8_1 t307 t308 t309 t321 t327 (wrap64 (t310 + t328)) t331 false _ ?side1 ?side2 A13.out).mono ?_); (case side1 => repeat (first | exact (Kd.R_reads' HO_8.out).2.2 | (with_reducible refine Kd.C_alloc ?_ _) | (with_reducible refine Kd.C_drewN ?_ _) | (with_reducible refine Kd.C_drew ?_))); (case side2 => exact (Kd.R_reads' HO_8.out).2.1); rintro e w24 ⟨v332, rfl, ho0, hb⟩; refine ⟨_, rfl, ?_⟩; have n0_ := Aside0.mk (Kd.R_elder' (pR74_ HO_8.out) (Kd.R_base ho0) hb); have n1_ := Aside0.mk (Kd.R_lower (Kd.R_new' ho0 (Kd.R_lt (pR74_ HO_8.out))) (below_size z74_1)); have n2_ := Aside0.mk (IsS87.below (by repeat (first | (with_reducible first | exact HI317.out | apply IsS87.alloc | apply IsS87.drewN | apply IsS87.drew | apply IsS87.set_1 | apply IsS87.set_2) | exact HI317.out)) hb); have n3_ := Aside0.mk (below_step z74_1 hb); clear HO_8; clear HI317; clear HB; have HO_8 := n0_; have HO333 := n1_; have HI317 := n2_; have HB := n3_; clear n0_ n1_ n2_ n3_; (try clear hb); (try clear hb2); (try clear hk); (try clear hi); (try clear ho0)))
          go_roundg k1
          case measure => have := HK1.out; omega
          case rel => exact ⟨(x8_1), (wrap64 (x15_1 - 1)), (t329), (t330), (by first | rfl | (simp; done) | (simp [*]; done)), H', ⟨by have := HK1.out; omega⟩, ⟨by (with_reducible repeat (first | apply Kd.R_alloc | apply Kd.R_drewN | apply Kd.R_drew)); exact Kd.R_mono HO_8.out (fun _ hk => trivial)⟩, ⟨by repeat (first | (with_reducible first | exact HI317.out | apply IsS87.alloc | apply IsS87.drewN | apply IsS87.drew | apply IsS87.set_1 | apply IsS87.set_2) | exact HI317.out)⟩, ⟨by repeat (first | (with_reducible first | exact HB.out | apply bA_ | apply bN_ | apply bD_ | refine bS_ ?_ (IsS87.ge HI317.out)) | exact HB.out)⟩⟩
      · rw [if_neg c8] at H
        have c8b0 : decide (0 < x15_1) = false := decide_eq_false c8
        clear c8
        simp only [Option.some.injEq, Prod.mk.injEq] at H
        obtain ⟨rfl, rfl, rfl, rfl, rfl, rfl⟩ := H
        go_wp2
        refine bodyPost_ret (results_list (rs := [.tmp 2, .tmp 3, .tmp 4, .tmp 5, .tmp 6, .tmp 7]) rfl (by simp) (.tmp (.tmp (.tmp (.tmp (.tmp (.tmp .nil))))))) rfl ?_
        exact ⟨_, by first | rfl | (simp [errW_none, errW_some] <;> rfl) | (simp [*, errW_none, errW_some] <;> rfl), by (with_reducible repeat (first | apply Kd.R_alloc | apply Kd.R_drewN | apply Kd.R_drew)); exact HO_8.out, by repeat (first | (with_reducible first | exact HB.out | apply bA_ | apply bN_ | apply bD_ | refine bS_ ?_ (IsS87.ge HI317.out)) | exact HB.out)⟩

/-! ### spec_DrawIsAccepted: function 57 -/
def spec_DrawIsAccepted.f (k : Nat) (l0 : List Int) : Option ((List (S54)) × Int × Int × Int × Int × Int × Int) := (spec_DrawWhoState.f k l0).bind fun bt335 => (some (bt335.1, bt335.2.1, bt335.2.2.1, bt335.2.2.2.1, bt335.2.2.2.2.1, bt335.2.2.2.2.2, ((l0.length : Int) % 4) - 1))
set_option maxHeartbeats 8000000 in
set_option maxRecDepth 100000 in
theorem spec_DrawIsAccepted.calls (k : Nat) (A0 : Option Addr) (c0 : Nat) (l0 : List Int) (r1 : List (S54)) (r2 : Int) (r3 : Int) (r4 : Int) (r5 : Int) (r6 : Int) (r7 : Int) (w : World) (hr0 : Kd.C (Kd.int .u8) w A0 l0.length l0) (hc0 : l0.length ≤ c0) (h : spec_DrawIsAccepted.f k l0 = some (r1, r2, r3, r4, r5, r6, r7)) :
    Calls Try.prog 57 #[.slice A0 l0.length c0] w fun e w' => ∃ v0_ : Value, e = .returned (.tuple #[v0_, .int .i64 r2, .int .i64 r3, .int .i64 r4, .int .i64 r5, .int .i64 r6, .int .i64 r7]) ∧ Kd.R k54 54 w' w.heap.size (fun _ => True) v0_ r1 ∧ Below w.heap.size w w' := by
  have HR0 := Aside0.mk hr0
  have HC0 := Aside0.mk hc0
  clear hr0 hc0
  have HB := Aside0.mk (Below.refl w.heap.size w)
  have H : ((spec_DrawWhoState.f k l0).bind fun bt335 => (some (bt335.1, bt335.2.1, bt335.2.2.1, bt335.2.2.2.1, bt335.2.2.2.2.1, bt335.2.2.2.2.2, ((l0.length : Int) % 4) - 1))) = some (r1, r2, r3, r4, r5, r6, r7) := h
  clear h
  replace H := Option.bind_eq_some_iff.mp H
  obtain ⟨⟨t335, t336, t337, t338, t339, t340⟩, A20, H⟩ := H
  replace H : (some (t335, t336, t337, t338, t339, t340, ((l0.length : Int) % 4) - 1)) = some (r1, r2, r3, r4, r5, r6, r7) := H
  have A2 := Aside0.mk A20
  clear A20
  simp only [Option.some.injEq, Prod.mk.injEq] at H
  obtain ⟨rfl, rfl, rfl, rfl, rfl, rfl, rfl⟩ := H
  go_enter Try.func57, Try.ntmps57
  go_wp2_with (first | ((with_reducible refine gate_callee (f := 74) rfl ?_); refine goesL_ (some 17) rfl rfl Try.func74 (by kernel_rfl) rfl #[.slice A0 l0.length c0] rfl (by (try simp only [List.map_toArray, List.map_cons, List.map_nil]); first | done | rfl | (simp only [List.length_drop, List.length_take]; rfl)) ?_; (with_reducible refine (spec_DrawWhoState.calls k _ _ l0 t335 t336 t337 t338 t339 t340 _ ?side1 ?side2 A2.out).mono ?_); (case side1 => repeat (first | exact HR0.out | (with_reducible refine Kd.C_alloc ?_ _) | (with_reducible refine Kd.C_drewN ?_ _) | (with_reducible refine Kd.C_drew ?_))); (case side2 => exact HC0.out); rintro e w3 ⟨v341, rfl, ho0, hb⟩; refine ⟨_, rfl, ?_⟩; have n0_ := Aside0.mk (Kd.R_lower ho0 (below_size (by repeat (first | (with_reducible first | exact HB.out | apply bA_ | apply bN_ | apply bD_) | exact HB.out)))); have n1_ := Aside0.mk (below_step (by repeat (first | (with_reducible first | exact HB.out | apply bA_ | apply bN_ | apply bD_) | exact HB.out)) hb); clear HB; have HO342 := n0_; have HB := n1_; clear n0_ n1_; (try clear hb); (try clear hb2); (try clear hk); (try clear hi); (try clear ho0)))
  refine bodyPost_ret (results_list (rs := [.tmp 2, .tmp 3, .tmp 4, .tmp 5, .tmp 6, .tmp 7, .tmp 8]) rfl (by simp) (.tmp (.tmp (.tmp (.tmp (.tmp (.tmp (.tmp .nil)))))))) rfl ?_
  exact ⟨_, by first | rfl | (simp [errW_none, errW_some] <;> rfl) | (simp [*, errW_none, errW_some] <;> rfl), by (with_reducible repeat (first | apply Kd.R_alloc | apply Kd.R_drewN | apply Kd.R_drew)); exact HO342.out, by repeat (first | (with_reducible first | exact HB.out | apply bA_ | apply bN_ | apply bD_) | exact HB.out)⟩

/-! ### spec_DrawAcceptedUntil: function 37 -/
def spec_DrawAcceptedUntil.f (k : Nat) (l0 : List Int) : Option ((List (S54)) × Int × Int × Int × Int × Int × Int) := (spec_DrawIsAccepted.f k l0).bind fun bt343 => (some (bt343.1, bt343.2.1, bt343.2.2.1, bt343.2.2.2.1, bt343.2.2.2.2.1, bt343.2.2.2.2.2.1, bt343.2.2.2.2.2.2))
set_option maxHeartbeats 8000000 in
set_option maxRecDepth 100000 in
theorem spec_DrawAcceptedUntil.calls (k : Nat) (A0 : Option Addr) (c0 : Nat) (l0 : List Int) (r1 : List (S54)) (r2 : Int) (r3 : Int) (r4 : Int) (r5 : Int) (r6 : Int) (r7 : Int) (w : World) (hr0 : Kd.C (Kd.int .u8) w A0 l0.length l0) (hc0 : l0.length ≤ c0) (h : spec_DrawAcceptedUntil.f k l0 = some (r1, r2, r3, r4, r5, r6, r7)) :
    Calls Try.prog 37 #[.slice A0 l0.length c0] w fun e w' => ∃ v0_ : Value, e = .returned (.tuple #[v0_, .int .i64 r2, .int .i64 r3, .int .i64 r4, .int .i64 r5, .int .i64 r6, .int .i64 r7]) ∧ Kd.R k54 54 w' w.heap.size (fun _ => True) v0_ r1 ∧ Below w.heap.size w w' := by
  have HR0 := Aside0.mk hr0
  have HC0 := Aside0.mk hc0
  clear hr0 hc0
  have HB := Aside0.mk (Below.refl w.heap.size w)
  have H : ((spec_DrawIsAccepted.f k l0).bind fun bt343 => (some (bt343.1, bt343.2.1, bt343.2.2.1, bt343.2.2.2.1, bt343.2.2.2.2.1, bt343.2.2.2.2.2.1, bt343.2.2.2.2.2.2))) = some (r1, r2, r3, r4, r5, r6, r7) := h
  clear h
  replace H := Option.bind_eq_some_iff.mp H
  obtain ⟨⟨t343, t344, t345, t346, t347, t348, t349⟩, A20, H⟩ := H
  replace H : (some (t343, t344, t345, t346, t347, t348, t349)) = some (r1, r2, r3, r4, r5, r6, r7) := H
  have A2 := Aside0.mk A20
  clear A20
  simp only [Option.some.injEq, Prod.mk.injEq] at H
  obtain ⟨rfl, rfl, rfl, rfl, rfl, rfl, rfl⟩ := H
  go_enter Try.func37, Try.ntmps37
  go_wp2_with (first | ((with_reducible refine gate_callee (f := 57) rfl ?_); refine goesL_ (some 18) rfl rfl Try.func57 (by kernel_rfl) rfl #[.slice A0 l0.length c0] rfl (by (try simp only [List.map_toArray, List.map_cons, List.map_nil]); first | done | rfl | (simp only [List.length_drop, List.length_take]; rfl)) ?_; (with_reducible refine (spec_DrawIsAccepted.calls k _ _ l0 t343 t344 t345 t346 t347 t348 t349 _ ?side1 ?side2 A2.out).mono ?_); (case side1 => repeat (first | exact HR0.out | (with_reducible refine Kd.C_alloc ?_ _) | (with_reducible refine Kd.C_drewN ?_ _) | (with_reducible refine Kd.C_drew ?_))); (case side2 => exact HC0.out); rintro e w3 ⟨v350, rfl, ho0, hb⟩; refine ⟨_, rfl, ?_⟩; have n0_ := Aside0.mk (Kd.R_lower ho0 (below_size (by repeat (first | (with_reducible first | exact HB.out | apply bA_ | apply bN_ | apply bD_) | exact HB.out)))); have n1_ := Aside0.mk (below_step (by repeat (first | (with_reducible first | exact HB.out | apply bA_ | apply bN_ | apply bD_) | exact HB.out)) hb); clear HB; have HO351 := n0_; have HB := n1_; clear n0_ n1_; (try clear hb); (try clear hb2); (try clear hk); (try clear hi); (try clear ho0)))
  refine bodyPost_ret (results_list (rs := [.tmp 2, .tmp 3, .tmp 4, .tmp 5, .tmp 6, .tmp 7, .tmp 8]) rfl (by simp) (.tmp (.tmp (.tmp (.tmp (.tmp (.tmp (.tmp .nil)))))))) rfl ?_
  exact ⟨_, by first | rfl | (simp [errW_none, errW_some] <;> rfl) | (simp [*, errW_none, errW_some] <;> rfl), by (with_reducible repeat (first | apply Kd.R_alloc | apply Kd.R_drewN | apply Kd.R_drew)); exact HO351.out, by repeat (first | (with_reducible first | exact HB.out | apply bA_ | apply bN_ | apply bD_) | exact HB.out)⟩

/-! ### impl_InRange: function 56 -/
def impl_InRange.f (a0 : Int) (a1 : Int) (a2 : Int) : Option (Bool) := if a1 ≤ a0 then (some (decide (a0 ≤ a2))) else (some false)
set_option maxHeartbeats 8000000 in
set_option maxRecDepth 100000 in
theorem impl_InRange.calls (a0 : Int) (a1 : Int) (a2 : Int) (r : Bool) (w : World) (h : impl_InRange.f a0 a1 a2 = some r) :
    Calls Try.prog 56 #[.int .i64 a0, .int .i64 a1, .int .i64 a2] w fun e w' => e = .returned (.bool r) ∧ Drawn0 w w' := by
  have H : (if a1 ≤ a0 then (some (decide (a0 ≤ a2))) else (some false)) = some r := h
  clear h
  by_cases c4 : a1 ≤ a0
  · rw [if_pos c4] at H
    have c4b0 : decide (a1 ≤ a0) = true := decide_eq_true c4
    clear c4
    obtain rfl := Option.some.inj H
    go_enter Try.func56, Try.ntmps56
    go_wp2
    go_ret
    exact ⟨by first | rfl | (simp; done) | (simp [*]; done), by repeat (first | exact Drawn0.refl _ | apply Drawn0.step)⟩
  · rw [if_neg c4] at H
    have c4b0 : decide (a1 ≤ a0) = false := decide_eq_false c4
    clear c4
    obtain rfl := Option.some.inj H
    go_enter Try.func56, Try.ntmps56
    go_wp2
    go_ret
    exact ⟨by first | rfl | (simp; done) | (simp [*]; done), by repeat (first | exact Drawn0.refl _ | apply Drawn0.step)⟩

/-! ### impl_IsTime: function 44 -/
def impl_IsTime.f (a0 : Int) : Option (Bool) := (impl_InRange.f a0 0 10000).bind fun t352 => (some t352)
set_option maxHeartbeats 8000000 in
set_option maxRecDepth 100000 in
theorem impl_IsTime.calls (a0 : Int) (r : Bool) (w : World) (h : impl_IsTime.f a0 = some r) :
    Calls Try.prog 44 #[.int .i64 a0] w fun e w' => e = .returned (.bool r) ∧ Drawn0 w w' := by
  have H : ((impl_InRange.f a0 0 10000).bind fun t352 => (some t352)) = some r := h
  clear h
  replace H := Option.bind_eq_some_iff.mp H
  obtain ⟨t352, A20, H⟩ := H
  replace H : (some t352) = some r := H
  have A2 := Aside0.mk A20
  clear A20
  obtain rfl := Option.some.inj H
  go_enter Try.func44, Try.ntmps44
  go_wp2_with (first | ((with_reducible refine gate_callee (f := 56) rfl ?_); refine goesL_ (some 4) rfl rfl Try.func56 (by kernel_rfl) rfl #[.int .i64 a0, .int .i64 0, .int .i64 10000] rfl (by (try simp only [List.map_toArray, List.map_cons, List.map_nil]); first | done | rfl | (simp only [List.length_drop, List.length_take]; rfl)) ?_; (with_reducible refine (impl_InRange.calls a0 0 10000 t352 _ A2.out).mono ?_); rintro e w' ⟨rfl, ⟨nd, rfl⟩⟩; refine ⟨_, rfl, ?_⟩))
  go_ret
  exact ⟨by first | rfl | (simp; done) | (simp [*]; done), by repeat (first | exact Drawn0.refl _ | apply Drawn0.step)⟩

/-! ### impl_IsName: function 118 -/
def impl_IsName.f (a0 : Int) : Option (Bool) := (impl_InRange.f a0 10 49).bind fun t353 => (some t353)
set_option maxHeartbeats 8000000 in
set_option maxRecDepth 100000 in
theorem impl_IsName.calls (a0 : Int) (r : Bool) (w : World) (h : impl_IsName.f a0 = some r) :
    Calls Try.prog 118 #[.int .i64 a0] w fun e w' => e = .returned (.bool r) ∧ Drawn0 w w' := by
  have H : ((impl_InRange.f a0 10 49).bind fun t353 => (some t353)) = some r := h
  clear h
  replace H := Option.bind_eq_some_iff.mp H
  obtain ⟨t353, A20, H⟩ := H
  replace H : (some t353) = some r := H
  have A2 := Aside0.mk A20
  clear A20
  obtain rfl := Option.some.inj H
  go_enter Try.func118, Try.ntmps118
  go_wp2_with (first | ((with_reducible refine gate_callee (f := 56) rfl ?_); refine goesL_ (some 4) rfl rfl Try.func56 (by kernel_rfl) rfl #[.int .i64 a0, .int .i64 10, .int .i64 49] rfl (by (try simp only [List.map_toArray, List.map_cons, List.map_nil]); first | done | rfl | (simp only [List.length_drop, List.length_take]; rfl)) ?_; (with_reducible refine (impl_InRange.calls a0 10 49 t353 _ A2.out).mono ?_); rintro e w' ⟨rfl, ⟨nd, rfl⟩⟩; refine ⟨_, rfl, ?_⟩))
  go_ret
  exact ⟨by first | rfl | (simp; done) | (simp [*]; done), by repeat (first | exact Drawn0.refl _ | apply Drawn0.step)⟩

/-! ### impl_KindOf: function 119 -/
def impl_KindOf.f (a0 : Int) : Option (Int) := (impl_IsName.f a0).bind fun t354 => (if t354 = true then (some (wrap64 (Int.tdiv a0 10))) else (some 0))
set_option maxHeartbeats 8000000 in
set_option maxRecDepth 100000 in
theorem impl_KindOf.calls (a0 : Int) (r : Int) (w : World) (h : impl_KindOf.f a0 = some r) :
    Calls Try.prog 119 #[.int .i64 a0] w fun e w' => e = .returned (.int .i64 r) ∧ Drawn0 w w' := by
  have H : ((impl_IsName.f a0).bind fun t354 => (if t354 = true then (some (wrap64 (Int.tdiv a0 10))) else (some 0))) = some r := h
  clear h
  replace H := Option.bind_eq_some_iff.mp H
  obtain ⟨t354, A20, H⟩ := H
  replace H : (if t354 = true then (some (wrap64 (Int.tdiv a0 10))) else (some 0)) = some r := H
  have A2 := Aside0.mk A20
  clear A20
  by_cases c3 : t354 = true
  · subst c3
    have H1 : (some (wrap64 (Int.tdiv a0 10))) = some r := by rw [if_pos rfl] at H; exact H
    clear H
    have H := H1
    clear H1
    obtain rfl := Option.some.inj H
    go_enter Try.func119, Try.ntmps119
    go_wp2_with (first | ((with_reducible refine gate_callee (f := 118) rfl ?_); refine goesL_ (some 4) rfl rfl Try.func118 (by kernel_rfl) rfl #[.int .i64 a0] rfl (by (try simp only [List.map_toArray, List.map_cons, List.map_nil]); first | done | rfl | (simp only [List.length_drop, List.length_take]; rfl)) ?_; (with_reducible refine (impl_IsName.calls a0 true _ A2.out).mono ?_); rintro e w' ⟨rfl, ⟨nd, rfl⟩⟩; refine ⟨_, rfl, ?_⟩))
    go_ret
    exact ⟨by first | rfl | (simp; done) | (simp [*]; done), by repeat (first | exact Drawn0.refl _ | apply Drawn0.step)⟩
  · replace c3 := Bool.eq_false_iff.mpr c3
    subst c3
    have H1 : (some 0) = some r := by rw [if_neg (show ¬ (false = true) by decide)] at H; exact H
    clear H
    have H := H1
    clear H1
    obtain rfl := Option.some.inj H
    go_enter Try.func119, Try.ntmps119
    go_wp2_with (first | ((with_reducible refine gate_callee (f := 118) rfl ?_); refine goesL_ (some 4) rfl rfl Try.func118 (by kernel_rfl) rfl #[.int .i64 a0] rfl (by (try simp only [List.map_toArray, List.map_cons, List.map_nil]); first | done | rfl | (simp only [List.length_drop, List.length_take]; rfl)) ?_; (with_reducible refine (impl_IsName.calls a0 false _ A2.out).mono ?_); rintro e w' ⟨rfl, ⟨nd, rfl⟩⟩; refine ⟨_, rfl, ?_⟩))
    go_ret
    exact ⟨by first | rfl | (simp; done) | (simp [*]; done), by repeat (first | exact Drawn0.refl _ | apply Drawn0.step)⟩

/-! ### impl_HasKind: function 103 -/
def impl_HasKind.f (a0 : Int) (a1 : Int) : Option (Bool) := (impl_IsName.f a0).bind fun t355 => (if t355 = true then ((impl_KindOf.f a0).bind fun t356 => (some (t356 == a1))) else (some false))
set_option maxHeartbeats 8000000 in
set_option maxRecDepth 100000 in
theorem impl_HasKind.calls (a0 : Int) (a1 : Int) (r : Bool) (w : World) (h : impl_HasKind.f a0 a1 = some r) :
    Calls Try.prog 103 #[.int .i64 a0, .int .i64 a1] w fun e w' => e = .returned (.bool r) ∧ Drawn0 w w' := by
  have H : ((impl_IsName.f a0).bind fun t355 => (if t355 = true then ((impl_KindOf.f a0).bind fun t356 => (some (t356 == a1))) else (some false))) = some r := h
  clear h
  replace H := Option.bind_eq_some_iff.mp H
  obtain ⟨t355, A30, H⟩ := H
  replace H : (if t355 = true then ((impl_KindOf.f a0).bind fun t356 => (some (t356 == a1))) else (some false)) = some r := H
  have A3 := Aside0.mk A30
  clear A30
  by_cases c4 : t355 = true
  · subst c4
    have H1 : ((impl_KindOf.f a0).bind fun t356 => (some (t356 == a1))) = some r := by rw [if_pos rfl] at H; exact H
    clear H
    have H := H1
    clear H1
    replace H := Option.bind_eq_some_iff.mp H
    obtain ⟨t356, A50, H⟩ := H
    replace H : (some (t356 == a1)) = some r := H
    have A5 := Aside0.mk A50
    clear A50
    obtain rfl := Option.some.inj H
    go_enter Try.func103, Try.ntmps103
    go_wp2_with (first | ((with_reducible refine gate_callee (f := 118) rfl ?_); refine goesL_ (some 6) rfl rfl Try.func118 (by kernel_rfl) rfl #[.int .i64 a0] rfl (by (try simp only [List.map_toArray, List.map_cons, List.map_nil]); first | done | rfl | (simp only [List.length_drop, List.length_take]; rfl)) ?_; (with_reducible refine (impl_IsName.calls a0 true _ A3.out).mono ?_); rintro e w' ⟨rfl, ⟨nd, rfl⟩⟩; refine ⟨_, rfl, ?_⟩) | (go_at_call 119; (with_reducible refine (impl_KindOf.calls a0 t356 _ A5.out).mono ?_); rintro e w' ⟨rfl, ⟨nd, rfl⟩⟩))
    go_ret
    exact ⟨by first | rfl | (simp; done) | (simp [*]; done), by repeat (first | exact Drawn0.refl _ | apply Drawn0.step)⟩
  · replace c4 := Bool.eq_false_iff.mpr c4
    subst c4
    have H1 : (some false) = some r := by rw [if_neg (show ¬ (false = true) by decide)] at H; exact H
    clear H
    have H := H1
    clear H1
    obtain rfl := Option.some.inj H
    go_enter Try.func103, Try.ntmps103
    go_wp2_with (first | ((with_reducible refine gate_callee (f := 118) rfl ?_); refine goesL_ (some 6) rfl rfl Try.func118 (by kernel_rfl) rfl #[.int .i64 a0] rfl (by (try simp only [List.map_toArray, List.map_cons, List.map_nil]); first | done | rfl | (simp only [List.length_drop, List.length_take]; rfl)) ?_; (with_reducible refine (impl_IsName.calls a0 false _ A3.out).mono ?_); rintro e w' ⟨rfl, ⟨nd, rfl⟩⟩; refine ⟨_, rfl, ?_⟩))
    go_ret
    exact ⟨by first | rfl | (simp; done) | (simp [*]; done), by repeat (first | exact Drawn0.refl _ | apply Drawn0.step)⟩

/-! ### impl_isClaim: function 80 -/
def impl_isClaim.f (a0_0 : Int) (a0_1 : Int) (a0_2 : Int) (a0_3 : Int) (a0_4 : Int) (a0_5 : Int) : Option (Bool) := if a0_0 = 1 then ((impl_HasKind.f a0_1 1).bind fun t358 => (if t358 = true then ((impl_InRange.f a0_2 0 5).bind fun t359 => (some t359)) else (some false))) else (if a0_0 = 2 then ((impl_HasKind.f a0_1 1).bind fun t360 => (if t360 = true then ((impl_HasKind.f a0_2 2).bind fun t361 => (some t361)) else (some false))) else (if a0_0 = 3 then ((impl_HasKind.f a0_1 2).bind fun t362 => (if t362 = true then ((impl_InRange.f a0_2 0 3).bind fun t363 => (some t363)) else (some false))) else (if a0_0 = 4 then ((impl_HasKind.f a0_1 3).bind fun t364 => (if t364 = true then ((impl_InRange.f a0_2 0 3).bind fun t365 => (some t365)) else (some false))) else (some false))))
theorem z80_0 {Q : Prop} (g : Q := by repeat (first | (with_reducible first | exact HB.out | apply bA_ | apply bN_ | apply bD_) | exact HB.out)) : Q := g
theorem z80_1 {Q : Prop} (g : Q := by (try simp only [List.map_toArray, List.map_cons, List.map_nil]); first | done | rfl | (simp only [List.length_drop, List.length_take]; rfl)) : Q := g
theorem z80_2 {Q : Prop} (g : Q := by rw [hg]; exact (below_size z80_0)) : Q := g
set_option maxHeartbeats 8000000 in
set_option maxRecDepth 100000 in
theorem impl_isClaim.calls (a0_0 : Int) (a0_1 : Int) (a0_2 : Int) (a0_3 : Int) (a0_4 : Int) (a0_5 : Int) (r : Bool) (w : World) (h : impl_isClaim.f a0_0 a0_1 a0_2 a0_3 a0_4 a0_5 = some r) :
    Calls Try.prog 80 #[.agg #[.int .i64 a0_0, .int .i64 a0_1, .int .i64 a0_2, .int .i64 a0_3, .int .i64 a0_4, .int .i64 a0_5]] w fun e w' => e = .returned (.bool r) ∧ Below w.heap.size w w' := by
  have hu54 := Try.underlying54
  have HB := Aside0.mk (Below.refl w.heap.size w)
  have H : (if a0_0 = 1 then ((impl_HasKind.f a0_1 1).bind fun t358 => (if t358 = true then ((impl_InRange.f a0_2 0 5).bind fun t359 => (some t359)) else (some false))) else (if a0_0 = 2 then ((impl_HasKind.f a0_1 1).bind fun t360 => (if t360 = true then ((impl_HasKind.f a0_2 2).bind fun t361 => (some t361)) else (some false))) else (if a0_0 = 3 then ((impl_HasKind.f a0_1 2).bind fun t362 => (if t362 = true then ((impl_InRange.f a0_2 0 3).bind fun t363 => (some t363)) else (some false))) else (if a0_0 = 4 then ((impl_HasKind.f a0_1 3).bind fun t364 => (if t364 = true then ((impl_InRange.f a0_2 0 3).bind fun t365 => (some t365)) else (some false))) else (some false))))) = some r := h
  clear h
  by_cases c2 : a0_0 = 1
  · rw [if_pos c2] at H
    have c2b0 : (a0_0 == 1) = true := beq_iff_eq.mpr c2
    have c2b1 : (a0_0 != 1) = false := bne_eq_false_iff_eq.mpr c2
    clear c2
    replace H := Option.bind_eq_some_iff.mp H
    obtain ⟨t358, A30, H⟩ := H
    replace H : (if t358 = true then ((impl_InRange.f a0_2 0 5).bind fun t359 => (some t359)) else (some false)) = some r := H
    have A3 := Aside0.mk A30
    clear A30
    by_cases c4 : t358 = true
    · subst c4
      have H1 : ((impl_InRange.f a0_2 0 5).bind fun t359 => (some t359)) = some r := by rw [if_pos rfl] at H; exact H
      clear H
      have H := H1
      clear H1
      replace H := Option.bind_eq_some_iff.mp H
      obtain ⟨t359, A50, H⟩ := H
      replace H : (some t359) = some r := H
      have A5 := Aside0.mk A50
      clear A50
      obtain rfl := Option.some.inj H
      go_enter Try.func80, Try.ntmps80
      go_wp2_with (first | ((with_reducible refine gate_dst (N := 1) rfl ?_); refine box_event ?hg (N := 1) ?hd (cs := #[.int .i64 a0_0, .int .i64 a0_1, .int .i64 a0_2, .int .i64 a0_3, .int .i64 a0_4, .int .i64 a0_5]) (t := 54) ?hr ?_; (case hd => rfl); (case hg => rfl); (case hr => first | (go_simp; done) | (go_simp; rfl)); intro gb357 hg w6 hbox hb; have n0_ := Aside0.mk (below_step z80_0 hb); have n1_ := Aside0.mk (hbox); have n2_ := Aside0.mk ((z80_2 : w.heap.size ≤ gb357)); have n3_ := Aside0.mk ((z80_2 : w.heap.size ≤ gb357)); clear HB; have HB := n0_; have BK357 := n1_; have GW357 := n2_; have GE357 := n3_; clear n0_ n1_ n2_ n3_; clear hb hbox hg; have hcz7_0 : w6.cell? ⟨gb357, 0, none⟩ = some (.int .i64 a0_0) := (bC_ BK357.out 0).trans rfl; have hcz7_1 : w6.cell? ⟨gb357, 1, none⟩ = some (.int .i64 a0_1) := (bC_ BK357.out 1).trans rfl; have hcz7_2 : w6.cell? ⟨gb357, 2, none⟩ = some (.int .i64 a0_2) := (bC_ BK357.out 2).trans rfl; have hcz7_3 : w6.cell? ⟨gb357, 3, none⟩ = some (.int .i64 a0_3) := (bC_ BK357.out 3).trans rfl; have hcz7_4 : w6.cell? ⟨gb357, 4, none⟩ = some (.int .i64 a0_4) := (bC_ BK357.out 4).trans rfl; have hcz7_5 : w6.cell? ⟨gb357, 5, none⟩ = some (.int .i64 a0_5) := (bC_ BK357.out 5).trans rfl; have hfz7_0 := bF_ BK357.out 0; have hfz7_1 := bF_ BK357.out 1; have hfz7_2 := bF_ BK357.out 2; have hfz7_3 := bF_ BK357.out 3; have hfz7_4 := bF_ BK357.out 4; have hfz7_5 := bF_ BK357.out 5) | ((with_reducible refine gate_callee (f := 103) rfl ?_); refine goesL_ (some 9) rfl rfl Try.func103 (by kernel_rfl) rfl #[.int .i64 a0_1, .int .i64 1] rfl z80_1 ?_; (with_reducible refine (impl_HasKind.calls a0_1 1 true _ A3.out).mono ?_); rintro e w' ⟨rfl, ⟨nd, rfl⟩⟩; refine ⟨_, rfl, ?_⟩) | (go_at_call 56; (with_reducible refine (impl_InRange.calls a0_2 0 5 t359 _ A5.out).mono ?_); rintro e w' ⟨rfl, ⟨nd, rfl⟩⟩))
      go_ret
      exact ⟨by first | rfl | (simp [errW_none, errW_some] <;> rfl) | (simp [*, errW_none, errW_some] <;> rfl), by repeat (first | (with_reducible first | exact HB.out | apply bA_ | apply bN_ | apply bD_ | refine bS_ ?_ GE357.out) | exact HB.out)⟩
    · replace c4 := Bool.eq_false_iff.mpr c4
      subst c4
      have H1 : (some false) = some r := by rw [if_neg (show ¬ (false = true) by decide)] at H; exact H
      clear H
      have H := H1
      clear H1
      obtain rfl := Option.some.inj H
      go_enter Try.func80, Try.ntmps80
      go_wp2_with (first | ((with_reducible refine gate_dst (N := 1) rfl ?_); refine box_event ?hg (N := 1) ?hd (cs := #[.int .i64 a0_0, .int .i64 a0_1, .int .i64 a0_2, .int .i64 a0_3, .int .i64 a0_4, .int .i64 a0_5]) (t := 54) ?hr ?_; (case hd => rfl); (case hg => rfl); (case hr => first | (go_simp; done) | (go_simp; rfl)); intro gb357 hg w8 hbox hb; have n0_ := Aside0.mk (below_step z80_0 hb); have n1_ := Aside0.mk (hbox); have n2_ := Aside0.mk ((z80_2 : w.heap.size ≤ gb357)); have n3_ := Aside0.mk ((z80_2 : w.heap.size ≤ gb357)); clear HB; have HB := n0_; have BK357 := n1_; have GW357 := n2_; have GE357 := n3_; clear n0_ n1_ n2_ n3_; clear hb hbox hg; have hcz9_0 : w8.cell? ⟨gb357, 0, none⟩ = some (.int .i64 a0_0) := (bC_ BK357.out 0).trans rfl; have hcz9_1 : w8.cell? ⟨gb357, 1, none⟩ = some (.int .i64 a0_1) := (bC_ BK357.out 1).trans rfl; have hcz9_2 : w8.cell? ⟨gb357, 2, none⟩ = some (.int .i64 a0_2) := (bC_ BK357.out 2).trans rfl; have hcz9_3 : w8.cell? ⟨gb357, 3, none⟩ = some (.int .i64 a0_3) := (bC_ BK357.out 3).trans rfl; have hcz9_4 : w8.cell? ⟨gb357, 4, none⟩ = some (.int .i64 a0_4) := (bC_ BK357.out 4).trans rfl; have hcz9_5 : w8.cell? ⟨gb357, 5, none⟩ = some (.int .i64 a0_5) := (bC_ BK357.out 5).trans rfl; have hfz9_0 := bF_ BK357.out 0; have hfz9_1 := bF_ BK357.out 1; have hfz9_2 := bF_ BK357.out 2; have hfz9_3 := bF_ BK357.out 3; have hfz9_4 := bF_ BK357.out 4; have hfz9_5 := bF_ BK357.out 5) | ((with_reducible refine gate_callee (f := 103) rfl ?_); refine goesL_ (some 9) rfl rfl Try.func103 (by kernel_rfl) rfl #[.int .i64 a0_1, .int .i64 1] rfl z80_1 ?_; (with_reducible refine (impl_HasKind.calls a0_1 1 false _ A3.out).mono ?_); rintro e w' ⟨rfl, ⟨nd, rfl⟩⟩; refine ⟨_, rfl, ?_⟩))
      go_ret
      exact ⟨by first | rfl | (simp [errW_none, errW_some] <;> rfl) | (simp [*, errW_none, errW_some] <;> rfl), by repeat (first | (with_reducible first | exact HB.out | apply bA_ | apply bN_ | apply bD_ | refine bS_ ?_ GE357.out) | exact HB.out)⟩
  · rw [if_neg c2] at H
    have c2b0 : (a0_0 == 1) = false := beq_eq_false_iff_ne.mpr c2
    have c2b1 : (a0_0 != 1) = true := bne_iff_ne.mpr c2
    by_cases c10 : a0_0 = 2
    · rw [if_pos c10] at H
      have c10b0 : (a0_0 == 2) = true := beq_iff_eq.mpr c10
      have c10b1 : (a0_0 != 2) = false := bne_eq_false_iff_eq.mpr c10
      clear c10
      replace H := Option.bind_eq_some_iff.mp H
      obtain ⟨t360, A110, H⟩ := H
      replace H : (if t360 = true then ((impl_HasKind.f a0_2 2).bind fun t361 => (some t361)) else (some false)) = some r := H
      have A11 := Aside0.mk A110
      clear A110
      by_cases c12 : t360 = true
      · subst c12
        have H1 : ((impl_HasKind.f a0_2 2).bind fun t361 => (some t361)) = some r := by rw [if_pos rfl] at H; exact H
        clear H
        have H := H1
        clear H1
        replace H := Option.bind_eq_some_iff.mp H
        obtain ⟨t361, A130, H⟩ := H
        replace H : (some t361) = some r := H
        have A13 := Aside0.mk A130
        clear A130
        obtain rfl := Option.some.inj H
        go_enter Try.func80, Try.ntmps80
        go_wp2_with (first | ((with_reducible refine gate_dst (N := 1) rfl ?_); refine box_event ?hg (N := 1) ?hd (cs := #[.int .i64 a0_0, .int .i64 a0_1, .int .i64 a0_2, .int .i64 a0_3, .int .i64 a0_4, .int .i64 a0_5]) (t := 54) ?hr ?_; (case hd => rfl); (case hg => rfl); (case hr => first | (go_simp; done) | (go_simp; rfl)); intro gb357 hg w14 hbox hb; have n0_ := Aside0.mk (below_step z80_0 hb); have n1_ := Aside0.mk (hbox); have n2_ := Aside0.mk ((z80_2 : w.heap.size ≤ gb357)); have n3_ := Aside0.mk ((z80_2 : w.heap.size ≤ gb357)); clear HB; have HB := n0_; have BK357 := n1_; have GW357 := n2_; have GE357 := n3_; clear n0_ n1_ n2_ n3_; clear hb hbox hg; have hcz15_0 : w14.cell? ⟨gb357, 0, none⟩ = some (.int .i64 a0_0) := (bC_ BK357.out 0).trans rfl; have hcz15_1 : w14.cell? ⟨gb357, 1, none⟩ = some (.int .i64 a0_1) := (bC_ BK357.out 1).trans rfl; have hcz15_2 : w14.cell? ⟨gb357, 2, none⟩ = some (.int .i64 a0_2) := (bC_ BK357.out 2).trans rfl; have hcz15_3 : w14.cell? ⟨gb357, 3, none⟩ = some (.int .i64 a0_3) := (bC_ BK357.out 3).trans rfl; have hcz15_4 : w14.cell? ⟨gb357, 4, none⟩ = some (.int .i64 a0_4) := (bC_ BK357.out 4).trans rfl; have hcz15_5 : w14.cell? ⟨gb357, 5, none⟩ = some (.int .i64 a0_5) := (bC_ BK357.out 5).trans rfl; have hfz15_0 := bF_ BK357.out 0; have hfz15_1 := bF_ BK357.out 1; have hfz15_2 := bF_ BK357.out 2; have hfz15_3 := bF_ BK357.out 3; have hfz15_4 := bF_ BK357.out 4; have hfz15_5 := bF_ BK357.out 5) | ((with_reducible refine gate_callee (f := 103) rfl ?_); refine goesL_ (some 19) rfl rfl Try.func103 (by kernel_rfl) rfl #[.int .i64 a0_1, .int .i64 1] rfl z80_1 ?_; (with_reducible refine (impl_HasKind.calls a0_1 1 true _ A11.out).mono ?_); rintro e w' ⟨rfl, ⟨nd, rfl⟩⟩; refine ⟨_, rfl, ?_⟩) | (go_at_call 103; (with_reducible refine (impl_HasKind.calls a0_2 2 t361 _ A13.out).mono ?_); rintro e w' ⟨rfl, ⟨nd, rfl⟩⟩))
        go_ret
        exact ⟨by first | rfl | (simp [errW_none, errW_some] <;> rfl) | (simp [*, errW_none, errW_some] <;> rfl), by repeat (first | (with_reducible first | exact HB.out | apply bA_ | apply bN_ | apply bD_ | refine bS_ ?_ GE357.out) | exact HB.out)⟩
      · replace c12 := Bool.eq_false_iff.mpr c12
        subst c12
        have H1 : (some false) = some r := by rw [if_neg (show ¬ (false = true) by decide)] at H; exact H
        clear H
        have H := H1
        clear H1
        obtain rfl := Option.some.inj H
        go_enter Try.func80, Try.ntmps80
        go_wp2_with (first | ((with_reducible refine gate_dst (N := 1) rfl ?_); refine box_event ?hg (N := 1) ?hd (cs := #[.int .i64 a0_0, .int .i64 a0_1, .int .i64 a0_2, .int .i64 a0_3, .int .i64 a0_4, .int .i64 a0_5]) (t := 54) ?hr ?_; (case hd => rfl); (case hg => rfl); (case hr => first | (go_simp; done) | (go_simp; rfl)); intro gb357 hg w16 hbox hb; have n0_ := Aside0.mk (below_step z80_0 hb); have n1_ := Aside0.mk (hbox); have n2_ := Aside0.mk ((z80_2 : w.heap.size ≤ gb357)); have n3_ := Aside0.mk ((z80_2 : w.heap.size ≤ gb357)); clear HB; have HB := n0_; have BK357 := n1_; have GW357 := n2_; have GE357 := n3_; clear n0_ n1_ n2_ n3_; clear hb hbox hg; have hcz17_0 : w16.cell? ⟨gb357, 0, none⟩ = some (.int .i64 a0_0) := (bC_ BK357.out 0).trans rfl; have hcz17_1 : w16.cell? ⟨gb357, 1, none⟩ = some (.int .i64 a0_1) := (bC_ BK357.out 1).trans rfl; have hcz17_2 : w16.cell? ⟨gb357, 2, none⟩ = some (.int .i64 a0_2) := (bC_ BK357.out 2).trans rfl; have hcz17_3 : w16.cell? ⟨gb357, 3, none⟩ = some (.int .i64 a0_3) := (bC_ BK357.out 3).trans rfl; have hcz17_4 : w16.cell? ⟨gb357, 4, none⟩ = some (.int .i64 a0_4) := (bC_ BK357.out 4).trans rfl; have hcz17_5 : w16.cell? ⟨gb357, 5, none⟩ = some (.int .i64 a0_5) := (bC_ BK357.out 5).trans rfl; have hfz17_0 := bF_ BK357.out 0; have hfz17_1 := bF_ BK357.out 1; have hfz17_2 := bF_ BK357.out 2; have hfz17_3 := bF_ BK357.out 3; have hfz17_4 := bF_ BK357.out 4; have hfz17_5 := bF_ BK357.out 5) | ((with_reducible refine gate_callee (f := 103) rfl ?_); refine goesL_ (some 19) rfl rfl Try.func103 (by kernel_rfl) rfl #[.int .i64 a0_1, .int .i64 1] rfl z80_1 ?_; (with_reducible refine (impl_HasKind.calls a0_1 1 false _ A11.out).mono ?_); rintro e w' ⟨rfl, ⟨nd, rfl⟩⟩; refine ⟨_, rfl, ?_⟩))
        go_ret
        exact ⟨by first | rfl | (simp [errW_none, errW_some] <;> rfl) | (simp [*, errW_none, errW_some] <;> rfl), by repeat (first | (with_reducible first | exact HB.out | apply bA_ | apply bN_ | apply bD_ | refine bS_ ?_ GE357.out) | exact HB.out)⟩
    · rw [if_neg c10] at H
      have c10b0 : (a0_0 == 2) = false := beq_eq_false_iff_ne.mpr c10
      have c10b1 : (a0_0 != 2) = true := bne_iff_ne.mpr c10
      by_cases c18 : a0_0 = 3
      · rw [if_pos c18] at H
        have c18b0 : (a0_0 == 3) = true := beq_iff_eq.mpr c18
        have c18b1 : (a0_0 != 3) = false := bne_eq_false_iff_eq.mpr c18
        clear c18
        replace H := Option.bind_eq_some_iff.mp H
        obtain ⟨t362, A190, H⟩ := H
        replace H : (if t362 = true then ((impl_InRange.f a0_2 0 3).bind fun t363 => (some t363)) else (some false)) = some r := H
        have A19 := Aside0.mk A190
        clear A190
        by_cases c20 : t362 = true
        · subst c20
          have H1 : ((impl_InRange.f a0_2 0 3).bind fun t363 => (some t363)) = some r := by rw [if_pos rfl] at H; exact H
          clear H
          have H := H1
          clear H1
          replace H := Option.bind_eq_some_iff.mp H
          obtain ⟨t363, A210, H⟩ := H
          replace H : (some t363) = some r := H
          have A21 := Aside0.mk A210
          clear A210
          obtain rfl := Option.some.inj H
          go_enter Try.func80, Try.ntmps80
          go_wp2_with (first | ((with_reducible refine gate_dst (N := 1) rfl ?_); refine box_event ?hg (N := 1) ?hd (cs := #[.int .i64 a0_0, .int .i64 a0_1, .int .i64 a0_2, .int .i64 a0_3, .int .i64 a0_4, .int .i64 a0_5]) (t := 54) ?hr ?_; (case hd => rfl); (case hg => rfl); (case hr => first | (go_simp; done) | (go_simp; rfl)); intro gb357 hg w22 hbox hb; have n0_ := Aside0.mk (below_step z80_0 hb); have n1_ := Aside0.mk (hbox); have n2_ := Aside0.mk ((z80_2 : w.heap.size ≤ gb357)); have n3_ := Aside0.mk ((z80_2 : w.heap.size ≤ gb357)); clear HB; have HB := n0_; have BK357 := n1_; have GW357 := n2_; have GE357 := n3_; clear n0_ n1_ n2_ n3_; clear hb hbox hg; have hcz23_0 : w22.cell? ⟨gb357, 0, none⟩ = some (.int .i64 a0_0) := (bC_ BK357.out 0).trans rfl; have hcz23_1 : w22.cell? ⟨gb357, 1, none⟩ = some (.int .i64 a0_1) := (bC_ BK357.out 1).trans rfl; have hcz23_2 : w22.cell? ⟨gb357, 2, none⟩ = some (.int .i64 a0_2) := (bC_ BK357.out 2).trans rfl; have hcz23_3 : w22.cell? ⟨gb357, 3, none⟩ = some (.int .i64 a0_3) := (bC_ BK357.out 3).trans rfl; have hcz23_4 : w22.cell? ⟨gb357, 4, none⟩ = some (.int .i64 a0_4) := (bC_ BK357.out 4).trans rfl; have hcz23_5 : w22.cell? ⟨gb357, 5, none⟩ = some (.int .i64 a0_5) := (bC_ BK357.out 5).trans rfl; have hfz23_0 := bF_ BK357.out 0; have hfz23_1 := bF_ BK357.out 1; have hfz23_2 := bF_ BK357.out 2; have hfz23_3 := bF_ BK357.out 3; have hfz23_4 := bF_ BK357.out 4; have hfz23_5 := bF_ BK357.out 5) | ((with_reducible refine gate_callee (f := 103) rfl ?_); refine goesL_ (some 29) rfl rfl Try.func103 (by kernel_rfl) rfl #[.int .i64 a0_1, .int .i64 2] rfl z80_1 ?_; (with_reducible refine (impl_HasKind.calls a0_1 2 true _ A19.out).mono ?_); rintro e w' ⟨rfl, ⟨nd, rfl⟩⟩; refine ⟨_, rfl, ?_⟩) | (go_at_call 56; (with_reducible refine (impl_InRange.calls a0_2 0 3 t363 _ A21.out).mono ?_); rintro e w' ⟨rfl, ⟨nd, rfl⟩⟩))
          go_ret
          exact ⟨by first | rfl | (simp [errW_none, errW_some] <;> rfl) | (simp [*, errW_none, errW_some] <;> rfl), by repeat (first | (with_reducible first | exact HB.out | apply bA_ | apply bN_ | apply bD_ | refine bS_ ?_ GE357.out) | exact HB.out)⟩
        · replace c20 := Bool.eq_false_iff.mpr c20
          subst c20
          have H1 : (some false) = some r := by rw [if_neg (show ¬ (false = true) by decide)] at H; exact H
          clear H
          have H := H1
          clear H1
          obtain rfl := Option.some.inj H
          go_enter Try.func80, Try.ntmps80
          go_wp2_with (first | ((with_reducible refine gate_dst (N := 1) rfl ?_); refine box_event ?hg (N := 1) ?hd (cs := #[.int .i64 a0_0, .int .i64 a0_1, .int .i64 a0_2, .int .i64 a0_3, .int .i64 a0_4, .int .i64 a0_5]) (t := 54) ?hr ?_; (case hd => rfl); (case hg => rfl); (case hr => first | (go_simp; done) | (go_simp; rfl)); intro gb357 hg w24 hbox hb; have n0_ := Aside0.mk (below_step z80_0 hb); have n1_ := Aside0.mk (hbox); have n2_ := Aside0.mk ((z80_2 : w.heap.size ≤ gb357)); have n3_ := Aside0.mk ((z80_2 : w.heap.size ≤ gb357)); clear HB; have HB := n0_; have BK357 := n1_; have GW357 := n2_; have GE357 := n3_; clear n0_ n1_ n2_ n3_; clear hb hbox hg; have hcz25_0 : w24.cell? ⟨gb357, 0, none⟩ = some (.int .i64 a0_0) := (bC_ BK357.out 0).trans rfl; have hcz25_1 : w24.cell? ⟨gb357, 1, none⟩ = some (.int .i64 a0_1) := (bC_ BK357.out 1).trans rfl; have hcz25_2 : w24.cell? ⟨gb357, 2, none⟩ = some (.int .i64 a0_2) := (bC_ BK357.out 2).trans rfl; have hcz25_3 : w24.cell? ⟨gb357, 3, none⟩ = some (.int .i64 a0_3) := (bC_ BK357.out 3).trans rfl; have hcz25_4 : w24.cell? ⟨gb357, 4, none⟩ = some (.int .i64 a0_4) := (bC_ BK357.out 4).trans rfl; have hcz25_5 : w24.cell? ⟨gb357, 5, none⟩ = some (.int .i64 a0_5) := (bC_ BK357.out 5).trans rfl; have hfz25_0 := bF_ BK357.out 0; have hfz25_1 := bF_ BK357.out 1; have hfz25_2 := bF_ BK357.out 2; have hfz25_3 := bF_ BK357.out 3; have hfz25_4 := bF_ BK357.out 4; have hfz25_5 := bF_ BK357.out 5) | ((with_reducible refine gate_callee (f := 103) rfl ?_); refine goesL_ (some 29) rfl rfl Try.func103 (by kernel_rfl) rfl #[.int .i64 a0_1, .int .i64 2] rfl z80_1 ?_; (with_reducible refine (impl_HasKind.calls a0_1 2 false _ A19.out).mono ?_); rintro e w' ⟨rfl, ⟨nd, rfl⟩⟩; refine ⟨_, rfl, ?_⟩))
          go_ret
          exact ⟨by first | rfl | (simp [errW_none, errW_some] <;> rfl) | (simp [*, errW_none, errW_some] <;> rfl), by repeat (first | (with_reducible first | exact HB.out | apply bA_ | apply bN_ | apply bD_ | refine bS_ ?_ GE357.out) | exact HB.out)⟩
      · rw [if_neg c18] at H
        have c18b0 : (a0_0 == 3) = false := beq_eq_false_iff_ne.mpr c18
        have c18b1 : (a0_0 != 3) = true := bne_iff_ne.mpr c18
        by_cases c26 : a0_0 = 4
        · rw [if_pos c26] at H
          have c26b0 : (a0_0 == 4) = true := beq_iff_eq.mpr c26
          have c26b1 : (a0_0 != 4) = false := bne_eq_false_iff_eq.mpr c26
          clear c26
          replace H := Option.bind_eq_some_iff.mp H
          obtain ⟨t364, A270, H⟩ := H
          replace H : (if t364 = true then ((impl_InRange.f a0_2 0 3).bind fun t365 => (some t365)) else (some false)) = some r := H
          have A27 := Aside0.mk A270
          clear A270
          by_cases c28 : t364 = true
          · subst c28
            have H1 : ((impl_InRange.f a0_2 0 3).bind fun t365 => (some t365)) = some r := by rw [if_pos rfl] at H; exact H
            clear H
            have H := H1
            clear H1
            replace H := Option.bind_eq_some_iff.mp H
            obtain ⟨t365, A290, H⟩ := H
            replace H : (some t365) = some r := H
            have A29 := Aside0.mk A290
            clear A290
            obtain rfl := Option.some.inj H
            go_enter Try.func80, Try.ntmps80
            go_wp2_with (first | ((with_reducible refine gate_dst (N := 1) rfl ?_); refine box_event ?hg (N := 1) ?hd (cs := #[.int .i64 a0_0, .int .i64 a0_1, .int .i64 a0_2, .int .i64 a0_3, .int .i64 a0_4, .int .i64 a0_5]) (t := 54) ?hr ?_; (case hd => rfl); (case hg => rfl); (case hr => first | (go_simp; done) | (go_simp; rfl)); intro gb357 hg w30 hbox hb; have n0_ := Aside0.mk (below_step z80_0 hb); have n1_ := Aside0.mk (hbox); have n2_ := Aside0.mk ((z80_2 : w.heap.size ≤ gb357)); have n3_ := Aside0.mk ((z80_2 : w.heap.size ≤ gb357)); clear HB; have HB := n0_; have BK357 := n1_; have GW357 := n2_; have GE357 := n3_; clear n0_ n1_ n2_ n3_; clear hb hbox hg; have hcz31_0 : w30.cell? ⟨gb357, 0, none⟩ = some (.int .i64 a0_0) := (bC_ BK357.out 0).trans rfl; have hcz31_1 : w30.cell? ⟨gb357, 1, none⟩ = some (.int .i64 a0_1) := (bC_ BK357.out 1).trans rfl; have hcz31_2 : w30.cell? ⟨gb357, 2, none⟩ = some (.int .i64 a0_2) := (bC_ BK357.out 2).trans rfl; have hcz31_3 : w30.cell? ⟨gb357, 3, none⟩ = some (.int .i64 a0_3) := (bC_ BK357.out 3).trans rfl; have hcz31_4 : w30.cell? ⟨gb357, 4, none⟩ = some (.int .i64 a0_4) := (bC_ BK357.out 4).trans rfl; have hcz31_5 : w30.cell? ⟨gb357, 5, none⟩ = some (.int .i64 a0_5) := (bC_ BK357.out 5).trans rfl; have hfz31_0 := bF_ BK357.out 0; have hfz31_1 := bF_ BK357.out 1; have hfz31_2 := bF_ BK357.out 2; have hfz31_3 := bF_ BK357.out 3; have hfz31_4 := bF_ BK357.out 4; have hfz31_5 := bF_ BK357.out 5) | ((with_reducible refine gate_callee (f := 103) rfl ?_); refine goesL_ (some 39) rfl rfl Try.func103 (by kernel_rfl) rfl #[.int .i64 a0_1, .int .i64 3] rfl z80_1 ?_; (with_reducible refine (impl_HasKind.calls a0_1 3 true _ A27.out).mono ?_); rintro e w' ⟨rfl, ⟨nd, rfl⟩⟩; refine ⟨_, rfl, ?_⟩) | (go_at_call 56; (with_reducible refine (impl_InRange.calls a0_2 0 3 t365 _ A29.out).mono ?_); rintro e w' ⟨rfl, ⟨nd, rfl⟩⟩))
            go_ret
            exact ⟨by first | rfl | (simp [errW_none, errW_some] <;> rfl) | (simp [*, errW_none, errW_some] <;> rfl), by repeat (first | (with_reducible first | exact HB.out | apply bA_ | apply bN_ | apply bD_ | refine bS_ ?_ GE357.out) | exact HB.out)⟩
          · replace c28 := Bool.eq_false_iff.mpr c28
            subst c28
            have H1 : (some false) = some r := by rw [if_neg (show ¬ (false = true) by decide)] at H; exact H
            clear H
            have H := H1
            clear H1
            obtain rfl := Option.some.inj H
            go_enter Try.func80, Try.ntmps80
            go_wp2_with (first | ((with_reducible refine gate_dst (N := 1) rfl ?_); refine box_event ?hg (N := 1) ?hd (cs := #[.int .i64 a0_0, .int .i64 a0_1, .int .i64 a0_2, .int .i64 a0_3, .int .i64 a0_4, .int .i64 a0_5]) (t := 54) ?hr ?_; (case hd => rfl); (case hg => rfl); (case hr => first | (go_simp; done) | (go_simp; rfl)); intro gb357 hg w32 hbox hb; have n0_ := Aside0.mk (below_step z80_0 hb); have n1_ := Aside0.mk (hbox); have n2_ := Aside0.mk ((z80_2 : w.heap.size ≤ gb357)); have n3_ := Aside0.mk ((z80_2 : w.heap.size ≤ gb357)); clear HB; have HB := n0_; have BK357 := n1_; have GW357 := n2_; have GE357 := n3_; clear n0_ n1_ n2_ n3_; clear hb hbox hg; have hcz33_0 : w32.cell? ⟨gb357, 0, none⟩ = some (.int .i64 a0_0) := (bC_ BK357.out 0).trans rfl; have hcz33_1 : w32.cell? ⟨gb357, 1, none⟩ = some (.int .i64 a0_1) := (bC_ BK357.out 1).trans rfl; have hcz33_2 : w32.cell? ⟨gb357, 2, none⟩ = some (.int .i64 a0_2) := (bC_ BK357.out 2).trans rfl; have hcz33_3 : w32.cell? ⟨gb357, 3, none⟩ = some (.int .i64 a0_3) := (bC_ BK357.out 3).trans rfl; have hcz33_4 : w32.cell? ⟨gb357, 4, none⟩ = some (.int .i64 a0_4) := (bC_ BK357.out 4).trans rfl; have hcz33_5 : w32.cell? ⟨gb357, 5, none⟩ = some (.int .i64 a0_5) := (bC_ BK357.out 5).trans rfl; have hfz33_0 := bF_ BK357.out 0; have hfz33_1 := bF_ BK357.out 1; have hfz33_2 := bF_ BK357.out 2; have hfz33_3 := bF_ BK357.out 3; have hfz33_4 := bF_ BK357.out 4; have hfz33_5 := bF_ BK357.out 5) | ((with_reducible refine gate_callee (f := 103) rfl ?_); refine goesL_ (some 39) rfl rfl Try.func103 (by kernel_rfl) rfl #[.int .i64 a0_1, .int .i64 3] rfl z80_1 ?_; (with_reducible refine (impl_HasKind.calls a0_1 3 false _ A27.out).mono ?_); rintro e w' ⟨rfl, ⟨nd, rfl⟩⟩; refine ⟨_, rfl, ?_⟩))
            go_ret
            exact ⟨by first | rfl | (simp [errW_none, errW_some] <;> rfl) | (simp [*, errW_none, errW_some] <;> rfl), by repeat (first | (with_reducible first | exact HB.out | apply bA_ | apply bN_ | apply bD_ | refine bS_ ?_ GE357.out) | exact HB.out)⟩
        · rw [if_neg c26] at H
          have c26b0 : (a0_0 == 4) = false := beq_eq_false_iff_ne.mpr c26
          have c26b1 : (a0_0 != 4) = true := bne_iff_ne.mpr c26
          obtain rfl := Option.some.inj H
          go_enter Try.func80, Try.ntmps80
          go_wp2_with (first | ((with_reducible refine gate_dst (N := 1) rfl ?_); refine box_event ?hg (N := 1) ?hd (cs := #[.int .i64 a0_0, .int .i64 a0_1, .int .i64 a0_2, .int .i64 a0_3, .int .i64 a0_4, .int .i64 a0_5]) (t := 54) ?hr ?_; (case hd => rfl); (case hg => rfl); (case hr => first | (go_simp; done) | (go_simp; rfl)); intro gb357 hg w34 hbox hb; have n0_ := Aside0.mk (below_step z80_0 hb); have n1_ := Aside0.mk (hbox); have n2_ := Aside0.mk ((z80_2 : w.heap.size ≤ gb357)); have n3_ := Aside0.mk ((z80_2 : w.heap.size ≤ gb357)); clear HB; have HB := n0_; have BK357 := n1_; have GW357 := n2_; have GE357 := n3_; clear n0_ n1_ n2_ n3_; clear hb hbox hg; have hcz35_0 : w34.cell? ⟨gb357, 0, none⟩ = some (.int .i64 a0_0) := (bC_ BK357.out 0).trans rfl; have hcz35_1 : w34.cell? ⟨gb357, 1, none⟩ = some (.int .i64 a0_1) := (bC_ BK357.out 1).trans rfl; have hcz35_2 : w34.cell? ⟨gb357, 2, none⟩ = some (.int .i64 a0_2) := (bC_ BK357.out 2).trans rfl; have hcz35_3 : w34.cell? ⟨gb357, 3, none⟩ = some (.int .i64 a0_3) := (bC_ BK357.out 3).trans rfl; have hcz35_4 : w34.cell? ⟨gb357, 4, none⟩ = some (.int .i64 a0_4) := (bC_ BK357.out 4).trans rfl; have hcz35_5 : w34.cell? ⟨gb357, 5, none⟩ = some (.int .i64 a0_5) := (bC_ BK357.out 5).trans rfl; have hfz35_0 := bF_ BK357.out 0; have hfz35_1 := bF_ BK357.out 1; have hfz35_2 := bF_ BK357.out 2; have hfz35_3 := bF_ BK357.out 3; have hfz35_4 := bF_ BK357.out 4; have hfz35_5 := bF_ BK357.out 5))
          go_ret
          exact ⟨by first | rfl | (simp [errW_none, errW_some] <;> rfl) | (simp [*, errW_none, errW_some] <;> rfl), by repeat (first | (with_reducible first | exact HB.out | apply bA_ | apply bN_ | apply bD_ | refine bS_ ?_ GE357.out) | exact HB.out)⟩

/-! ### impl_IsFact: function 61 -/
def impl_IsFact.f (a0_0 : Int) (a0_1 : Int) (a0_2 : Int) (a0_3 : Int) (a0_4 : Int) (a0_5 : Int) : Option (Bool) := (impl_isClaim.f a0_0 a0_1 a0_2 a0_3 a0_4 a0_5).bind fun t367 => (if t367 = true then ((impl_InRange.f a0_3 0 9).bind fun t368 => (if t368 = true then ((impl_IsTime.f a0_4).bind fun t369 => (if t369 = true then ((impl_IsTime.f a0_5).bind fun t370 => (if t370 = true then (some (decide (a0_4 ≤ a0_5))) else (some false))) else (some false))) else (some false))) else (some false))
theorem pB61_ {P Q : Prop} (h : P) (g : P → Q := by intro h_; (with_reducible repeat (first | refine blk_drewN ?_ _ | refine blk_drew ?_ | refine blk_alloc ?_ _)); exact h_) : Q := g h
theorem z61_0 {Q : Prop} (g : Q := by repeat (first | (with_reducible first | exact HB.out | apply bA_ | apply bN_ | apply bD_) | exact HB.out)) : Q := g
theorem z61_1 {Q : Prop} (g : Q := by repeat (first | (with_reducible first | exact HB.out | apply bA_ | apply bN_ | apply bD_ | refine bS_ ?_ GE366.out) | exact HB.out)) : Q := g
theorem z61_2 {Q : Prop} (g : Q := by (try simp only [List.map_toArray, List.map_cons, List.map_nil]); first | done | rfl | (simp only [List.length_drop, List.length_take]; rfl)) : Q := g
theorem z61_3 {Q : Prop} (g : Q := by rw [hg]; exact (below_size z61_0)) : Q := g
set_option maxHeartbeats 8000000 in
set_option maxRecDepth 100000 in
theorem impl_IsFact.calls (a0_0 : Int) (a0_1 : Int) (a0_2 : Int) (a0_3 : Int) (a0_4 : Int) (a0_5 : Int) (r : Bool) (w : World) (h : impl_IsFact.f a0_0 a0_1 a0_2 a0_3 a0_4 a0_5 = some r) :
    Calls Try.prog 61 #[.agg #[.int .i64 a0_0, .int .i64 a0_1, .int .i64 a0_2, .int .i64 a0_3, .int .i64 a0_4, .int .i64 a0_5]] w fun e w' => e = .returned (.bool r) ∧ Below w.heap.size w w' := by
  have hu54 := Try.underlying54
  have HB := Aside0.mk (Below.refl w.heap.size w)
  have H : ((impl_isClaim.f a0_0 a0_1 a0_2 a0_3 a0_4 a0_5).bind fun t367 => (if t367 = true then ((impl_InRange.f a0_3 0 9).bind fun t368 => (if t368 = true then ((impl_IsTime.f a0_4).bind fun t369 => (if t369 = true then ((impl_IsTime.f a0_5).bind fun t370 => (if t370 = true then (some (decide (a0_4 ≤ a0_5))) else (some false))) else (some false))) else (some false))) else (some false))) = some r := h
  clear h
  replace H := Option.bind_eq_some_iff.mp H
  obtain ⟨t367, A20, H⟩ := H
  replace H : (if t367 = true then ((impl_InRange.f a0_3 0 9).bind fun t368 => (if t368 = true then ((impl_IsTime.f a0_4).bind fun t369 => (if t369 = true then ((impl_IsTime.f a0_5).bind fun t370 => (if t370 = true then (some (decide (a0_4 ≤ a0_5))) else (some false))) else (some false))) else (some false))) else (some false)) = some r := H
  have A2 := Aside0.mk A20
  clear A20
  by_cases c3 : t367 = true
  · subst c3
    have H1 : ((impl_InRange.f a0_3 0 9).bind fun t368 => (if t368 = true then ((impl_IsTime.f a0_4).bind fun t369 => (if t369 = true then ((impl_IsTime.f a0_5).bind fun t370 => (if t370 = true then (some (decide (a0_4 ≤ a0_5))) else (some false))) else (some false))) else (some false))) = some r := by rw [if_pos rfl] at H; exact H
    clear H
    have H := H1
    clear H1
    replace H := Option.bind_eq_some_iff.mp H
    obtain ⟨t368, A40, H⟩ := H
    replace H : (if t368 = true then ((impl_IsTime.f a0_4).bind fun t369 => (if t369 = true then ((impl_IsTime.f a0_5).bind fun t370 => (if t370 = true then (some (decide (a0_4 ≤ a0_5))) else (some false))) else (some false))) else (some false)) = some r := H
    have A4 := Aside0.mk A40
    clear A40
    by_cases c5 : t368 = true
    · subst c5
      have H1 : ((impl_IsTime.f a0_4).bind fun t369 => (if t369 = true then ((impl_IsTime.f a0_5).bind fun t370 => (if t370 = true then (some (decide (a0_4 ≤ a0_5))) else (some false))) else (some false))) = some r := by rw [if_pos rfl] at H; exact H
      clear H
      have H := H1
      clear H1
      replace H := Option.bind_eq_some_iff.mp H
      obtain ⟨t369, A60, H⟩ := H
      replace H : (if t369 = true then ((impl_IsTime.f a0_5).bind fun t370 => (if t370 = true then (some (decide (a0_4 ≤ a0_5))) else (some false))) else (some false)) = some r := H
      have A6 := Aside0.mk A60
      clear A60
      by_cases c7 : t369 = true
      · subst c7
        have H1 : ((impl_IsTime.f a0_5).bind fun t370 => (if t370 = true then (some (decide (a0_4 ≤ a0_5))) else (some false))) = some r := by rw [if_pos rfl] at H; exact H
        clear H
        have H := H1
        clear H1
        replace H := Option.bind_eq_some_iff.mp H
        obtain ⟨t370, A80, H⟩ := H
        replace H : (if t370 = true then (some (decide (a0_4 ≤ a0_5))) else (some false)) = some r := H
        have A8 := Aside0.mk A80
        clear A80
        by_cases c9 : t370 = true
        · subst c9
          have H1 : (some (decide (a0_4 ≤ a0_5))) = some r := by rw [if_pos rfl] at H; exact H
          clear H
          have H := H1
          clear H1
          obtain rfl := Option.some.inj H
          go_enter Try.func61, Try.ntmps61
          go_wp2_with (first | ((with_reducible refine gate_dst (N := 1) rfl ?_); refine box_event ?hg (N := 1) ?hd (cs := #[.int .i64 a0_0, .int .i64 a0_1, .int .i64 a0_2, .int .i64 a0_3, .int .i64 a0_4, .int .i64 a0_5]) (t := 54) ?hr ?_; (case hd => rfl); (case hg => rfl); (case hr => first | (go_simp; done) | (go_simp; rfl)); intro gb366 hg w10 hbox hb; have n0_ := Aside0.mk (below_step z61_0 hb); have n1_ := Aside0.mk (hbox); have n2_ := Aside0.mk ((z61_3 : w.heap.size ≤ gb366)); have n3_ := Aside0.mk ((z61_3 : w.heap.size ≤ gb366)); clear HB; have HB := n0_; have BK366 := n1_; have GW366 := n2_; have GE366 := n3_; clear n0_ n1_ n2_ n3_; clear hb hbox hg; have hcz11_0 : w10.cell? ⟨gb366, 0, none⟩ = some (.int .i64 a0_0) := (bC_ BK366.out 0).trans rfl; have hcz11_1 : w10.cell? ⟨gb366, 1, none⟩ = some (.int .i64 a0_1) := (bC_ BK366.out 1).trans rfl; have hcz11_2 : w10.cell? ⟨gb366, 2, none⟩ = some (.int .i64 a0_2) := (bC_ BK366.out 2).trans rfl; have hcz11_3 : w10.cell? ⟨gb366, 3, none⟩ = some (.int .i64 a0_3) := (bC_ BK366.out 3).trans rfl; have hcz11_4 : w10.cell? ⟨gb366, 4, none⟩ = some (.int .i64 a0_4) := (bC_ BK366.out 4).trans rfl; have hcz11_5 : w10.cell? ⟨gb366, 5, none⟩ = some (.int .i64 a0_5) := (bC_ BK366.out 5).trans rfl; have hfz11_0 := bF_ BK366.out 0; have hfz11_1 := bF_ BK366.out 1; have hfz11_2 := bF_ BK366.out 2; have hfz11_3 := bF_ BK366.out 3; have hfz11_4 := bF_ BK366.out 4; have hfz11_5 := bF_ BK366.out 5) | ((with_reducible refine gate_callee (f := 80) rfl ?_); refine goesL_ (some 4) rfl rfl Try.func80 (by kernel_rfl) rfl #[.agg #[.int .i64 a0_0, .int .i64 a0_1, .int .i64 a0_2, .int .i64 a0_3, .int .i64 a0_4, .int .i64 a0_5]] rfl z61_2 ?_; (with_reducible refine (impl_isClaim.calls a0_0 a0_1 a0_2 a0_3 a0_4 a0_5 true _ A2.out).mono ?_); rintro e w12 ⟨rfl, hb⟩; refine ⟨_, rfl, ?_⟩; have n0_ := Aside0.mk (blk_below (g := gb366) (o := .cells #[.int .i64 a0_0, .int .i64 a0_1, .int .i64 a0_2, .int .i64 a0_3, .int .i64 a0_4, .int .i64 a0_5] 54 (0, 0)) (pB61_ BK366.out) hb); have n1_ := Aside0.mk (below_step z61_1 hb); clear BK366; clear HB; have BK366 := n0_; have HB := n1_; clear n0_ n1_; (try clear hb); (try clear hb2); (try clear hk); (try clear hi); have hcz13_0 : w12.cell? ⟨gb366, 0, none⟩ = some (.int .i64 a0_0) := (bC_ BK366.out 0).trans rfl; have hcz13_1 : w12.cell? ⟨gb366, 1, none⟩ = some (.int .i64 a0_1) := (bC_ BK366.out 1).trans rfl; have hcz13_2 : w12.cell? ⟨gb366, 2, none⟩ = some (.int .i64 a0_2) := (bC_ BK366.out 2).trans rfl; have hcz13_3 : w12.cell? ⟨gb366, 3, none⟩ = some (.int .i64 a0_3) := (bC_ BK366.out 3).trans rfl; have hcz13_4 : w12.cell? ⟨gb366, 4, none⟩ = some (.int .i64 a0_4) := (bC_ BK366.out 4).trans rfl; have hcz13_5 : w12.cell? ⟨gb366, 5, none⟩ = some (.int .i64 a0_5) := (bC_ BK366.out 5).trans rfl; have hfz13_0 := bF_ BK366.out 0; have hfz13_1 := bF_ BK366.out 1; have hfz13_2 := bF_ BK366.out 2; have hfz13_3 := bF_ BK366.out 3; have hfz13_4 := bF_ BK366.out 4; have hfz13_5 := bF_ BK366.out 5) | (go_at_call 56; (with_reducible refine (impl_InRange.calls a0_3 0 9 true _ A4.out).mono ?_); rintro e w' ⟨rfl, ⟨nd, rfl⟩⟩) | (go_at_call 44; (with_reducible refine (impl_IsTime.calls a0_4 true _ A6.out).mono ?_); rintro e w' ⟨rfl, ⟨nd, rfl⟩⟩) | (go_at_call 44; (with_reducible refine (impl_IsTime.calls a0_5 true _ A8.out).mono ?_); rintro e w' ⟨rfl, ⟨nd, rfl⟩⟩))
          go_ret
          exact ⟨by first | rfl | (simp [errW_none, errW_some] <;> rfl) | (simp [*, errW_none, errW_some] <;> rfl), by repeat (first | (with_reducible first | exact HB.out | apply bA_ | apply bN_ | apply bD_ | refine bS_ ?_ GE366.out) | exact HB.out)⟩
        · replace c9 := Bool.eq_false_iff.mpr c9
          subst c9
          have H1 : (some false) = some r := by rw [if_neg (show ¬ (false = true) by decide)] at H; exact H
          clear H
          have H := H1
          clear H1
          obtain rfl := Option.some.inj H
          go_enter Try.func61, Try.ntmps61
          go_wp2_with (first | ((with_reducible refine gate_dst (N := 1) rfl ?_); refine box_event ?hg (N := 1) ?hd (cs := #[.int .i64 a0_0, .int .i64 a0_1, .int .i64 a0_2, .int .i64 a0_3, .int .i64 a0_4, .int .i64 a0_5]) (t := 54) ?hr ?_; (case hd => rfl); (case hg => rfl); (case hr => first | (go_simp; done) | (go_simp; rfl)); intro gb366 hg w14 hbox hb; have n0_ := Aside0.mk (below_step z61_0 hb); have n1_ := Aside0.mk (hbox); have n2_ := Aside0.mk ((z61_3 : w.heap.size ≤ gb366)); have n3_ := Aside0.mk ((z61_3 : w.heap.size ≤ gb366)); clear HB; have HB := n0_; have BK366 := n1_; have GW366 := n2_; have GE366 := n3_; clear n0_ n1_ n2_ n3_; clear hb hbox hg; have hcz15_0 : w14.cell? ⟨gb366, 0, none⟩ = some (.int .i64 a0_0) := (bC_ BK366.out 0).trans rfl; have hcz15_1 : w14.cell? ⟨gb366, 1, none⟩ = some (.int .i64 a0_1) := (bC_ BK366.out 1).trans rfl; have hcz15_2 : w14.cell? ⟨gb366, 2, none⟩ = some (.int .i64 a0_2) := (bC_ BK366.out 2).trans rfl; have hcz15_3 : w14.cell? ⟨gb366, 3, none⟩ = some (.int .i64 a0_3) := (bC_ BK366.out 3).trans rfl; have hcz15_4 : w14.cell? ⟨gb366, 4, none⟩ = some (.int .i64 a0_4) := (bC_ BK366.out 4).trans rfl; have hcz15_5 : w14.cell? ⟨gb366, 5, none⟩ = some (.int .i64 a0_5) := (bC_ BK366.out 5).trans rfl; have hfz15_0 := bF_ BK366.out 0; have hfz15_1 := bF_ BK366.out 1; have hfz15_2 := bF_ BK366.out 2; have hfz15_3 := bF_ BK366.out 3; have hfz15_4 := bF_ BK366.out 4; have hfz15_5 := bF_ BK366.out 5) | ((with_reducible refine gate_callee (f := 80) rfl ?_); refine goesL_ (some 4) rfl rfl Try.func80 (by kernel_rfl) rfl #[.agg #[.int .i64 a0_0, .int .i64 a0_1, .int .i64 a0_2, .int .i64 a0_3, .int .i64 a0_4, .int .i64 a0_5]] rfl z61_2 ?_; (with_reducible refine (impl_isClaim.calls a0_0 a0_1 a0_2 a0_3 a0_4 a0_5 true _ A2.out).mono ?_); rintro e w16 ⟨rfl, hb⟩; refine ⟨_, rfl, ?_⟩; have n0_ := Aside0.mk (blk_below (g := gb366) (o := .cells #[.int .i64 a0_0, .int .i64 a0_1, .int .i64 a0_2, .int .i64 a0_3, .int .i64 a0_4, .int .i64 a0_5] 54 (0, 0)) (pB61_ BK366.out) hb); have n1_ := Aside0.mk (below_step z61_1 hb); clear BK366; clear HB; have BK366 := n0_; have HB := n1_; clear n0_ n1_; (try clear hb); (try clear hb2); (try clear hk); (try clear hi); have hcz17_0 : w16.cell? ⟨gb366, 0, none⟩ = some (.int .i64 a0_0) := (bC_ BK366.out 0).trans rfl; have hcz17_1 : w16.cell? ⟨gb366, 1, none⟩ = some (.int .i64 a0_1) := (bC_ BK366.out 1).trans rfl; have hcz17_2 : w16.cell? ⟨gb366, 2, none⟩ = some (.int .i64 a0_2) := (bC_ BK366.out 2).trans rfl; have hcz17_3 : w16.cell? ⟨gb366, 3, none⟩ = some (.int .i64 a0_3) := (bC_ BK366.out 3).trans rfl; have hcz17_4 : w16.cell? ⟨gb366, 4, none⟩ = some (.int .i64 a0_4) := (bC_ BK366.out 4).trans rfl; have hcz17_5 : w16.cell? ⟨gb366, 5, none⟩ = some (.int .i64 a0_5) := (bC_ BK366.out 5).trans rfl; have hfz17_0 := bF_ BK366.out 0; have hfz17_1 := bF_ BK366.out 1; have hfz17_2 := bF_ BK366.out 2; have hfz17_3 := bF_ BK366.out 3; have hfz17_4 := bF_ BK366.out 4; have hfz17_5 := bF_ BK366.out 5) | (go_at_call 56; (with_reducible refine (impl_InRange.calls a0_3 0 9 true _ A4.out).mono ?_); rintro e w' ⟨rfl, ⟨nd, rfl⟩⟩) | (go_at_call 44; (with_reducible refine (impl_IsTime.calls a0_4 true _ A6.out).mono ?_); rintro e w' ⟨rfl, ⟨nd, rfl⟩⟩) | (go_at_call 44; (with_reducible refine (impl_IsTime.calls a0_5 false _ A8.out).mono ?_); rintro e w' ⟨rfl, ⟨nd, rfl⟩⟩))
          go_ret
          exact ⟨by first | rfl | (simp [errW_none, errW_some] <;> rfl) | (simp [*, errW_none, errW_some] <;> rfl), by repeat (first | (with_reducible first | exact HB.out | apply bA_ | apply bN_ | apply bD_ | refine bS_ ?_ GE366.out) | exact HB.out)⟩
      · replace c7 := Bool.eq_false_iff.mpr c7
        subst c7
        have H1 : (some false) = some r := by rw [if_neg (show ¬ (false = true) by decide)] at H; exact H
        clear H
        have H := H1
        clear H1
        obtain rfl := Option.some.inj H
        go_enter Try.func61, Try.ntmps61
        go_wp2_with (first | ((with_reducible refine gate_dst (N := 1) rfl ?_); refine box_event ?hg (N := 1) ?hd (cs := #[.int .i64 a0_0, .int .i64 a0_1, .int .i64 a0_2, .int .i64 a0_3, .int .i64 a0_4, .int .i64 a0_5]) (t := 54) ?hr ?_; (case hd => rfl); (case hg => rfl); (case hr => first | (go_simp; done) | (go_simp; rfl)); intro gb366 hg w18 hbox hb; have n0_ := Aside0.mk (below_step z61_0 hb); have n1_ := Aside0.mk (hbox); have n2_ := Aside0.mk ((z61_3 : w.heap.size ≤ gb366)); have n3_ := Aside0.mk ((z61_3 : w.heap.size ≤ gb366)); clear HB; have HB := n0_; have BK366 := n1_; have GW366 := n2_; have GE366 := n3_; clear n0_ n1_ n2_ n3_; clear hb hbox hg; have hcz19_0 : w18.cell? ⟨gb366, 0, none⟩ = some (.int .i64 a0_0) := (bC_ BK366.out 0).trans rfl; have hcz19_1 : w18.cell? ⟨gb366, 1, none⟩ = some (.int .i64 a0_1) := (bC_ BK366.out 1).trans rfl; have hcz19_2 : w18.cell? ⟨gb366, 2, none⟩ = some (.int .i64 a0_2) := (bC_ BK366.out 2).trans rfl; have hcz19_3 : w18.cell? ⟨gb366, 3, none⟩ = some (.int .i64 a0_3) := (bC_ BK366.out 3).trans rfl; have hcz19_4 : w18.cell? ⟨gb366, 4, none⟩ = some (.int .i64 a0_4) := (bC_ BK366.out 4).trans rfl; have hcz19_5 : w18.cell? ⟨gb366, 5, none⟩ = some (.int .i64 a0_5) := (bC_ BK366.out 5).trans rfl; have hfz19_0 := bF_ BK366.out 0; have hfz19_1 := bF_ BK366.out 1; have hfz19_2 := bF_ BK366.out 2; have hfz19_3 := bF_ BK366.out 3; have hfz19_4 := bF_ BK366.out 4; have hfz19_5 := bF_ BK366.out 5) | ((with_reducible refine gate_callee (f := 80) rfl ?_); refine goesL_ (some 4) rfl rfl Try.func80 (by kernel_rfl) rfl #[.agg #[.int .i64 a0_0, .int .i64 a0_1, .int .i64 a0_2, .int .i64 a0_3, .int .i64 a0_4, .int .i64 a0_5]] rfl z61_2 ?_; (with_reducible refine (impl_isClaim.calls a0_0 a0_1 a0_2 a0_3 a0_4 a0_5 true _ A2.out).mono ?_); rintro e w20 ⟨rfl, hb⟩; refine ⟨_, rfl, ?_⟩; have n0_ := Aside0.mk (blk_below (g := gb366) (o := .cells #[.int .i64 a0_0, .int .i64 a0_1, .int .i64 a0_2, .int .i64 a0_3, .int .i64 a0_4, .int .i64 a0_5] 54 (0, 0)) (pB61_ BK366.out) hb); have n1_ := Aside0.mk (below_step z61_1 hb); clear BK366; clear HB; have BK366 := n0_; have HB := n1_; clear n0_ n1_; (try clear hb); (try clear hb2); (try clear hk); (try clear hi); have hcz21_0 : w20.cell? ⟨gb366, 0, none⟩ = some (.int .i64 a0_0) := (bC_ BK366.out 0).trans rfl; have hcz21_1 : w20.cell? ⟨gb366, 1, none⟩ = some (.int .i64 a0_1) := (bC_ BK366.out 1).trans rfl; have hcz21_2 : w20.cell? ⟨gb366, 2, none⟩ = some (.int .i64 a0_2) := (bC_ BK366.out 2).trans rfl; have hcz21_3 : w20.cell? ⟨gb366, 3, none⟩ = some (.int .i64 a0_3) := (bC_ BK366.out 3).trans rfl; have hcz21_4 : w20.cell? ⟨gb366, 4, none⟩ = some (.int .i64 a0_4) := (bC_ BK366.out 4).trans rfl; have hcz21_5 : w20.cell? ⟨gb366, 5, none⟩ = some (.int .i64 a0_5) := (bC_ BK366.out 5).trans rfl; have hfz21_0 := bF_ BK366.out 0; have hfz21_1 := bF_ BK366.out 1; have hfz21_2 := bF_ BK366.out 2; have hfz21_3 := bF_ BK366.out 3; have hfz21_4 := bF_ BK366.out 4; have hfz21_5 := bF_ BK366.out 5) | (go_at_call 56; (with_reducible refine (impl_InRange.calls a0_3 0 9 true _ A4.out).mono ?_); rintro e w' ⟨rfl, ⟨nd, rfl⟩⟩) | (go_at_call 44; (with_reducible refine (impl_IsTime.calls a0_4 false _ A6.out).mono ?_); rintro e w' ⟨rfl, ⟨nd, rfl⟩⟩))
        go_ret
        exact ⟨by first | rfl | (simp [errW_none, errW_some] <;> rfl) | (simp [*, errW_none, errW_some] <;> rfl), by repeat (first | (with_reducible first | exact HB.out | apply bA_ | apply bN_ | apply bD_ | refine bS_ ?_ GE366.out) | exact HB.out)⟩
    · replace c5 := Bool.eq_false_iff.mpr c5
      subst c5
      have H1 : (some false) = some r := by rw [if_neg (show ¬ (false = true) by decide)] at H; exact H
      clear H
      have H := H1
      clear H1
      obtain rfl := Option.some.inj H
      go_enter Try.func61, Try.ntmps61
      go_wp2_with (first | ((with_reducible refine gate_dst (N := 1) rfl ?_); refine box_event ?hg (N := 1) ?hd (cs := #[.int .i64 a0_0, .int .i64 a0_1, .int .i64 a0_2, .int .i64 a0_3, .int .i64 a0_4, .int .i64 a0_5]) (t := 54) ?hr ?_; (case hd => rfl); (case hg => rfl); (case hr => first | (go_simp; done) | (go_simp; rfl)); intro gb366 hg w22 hbox hb; have n0_ := Aside0.mk (below_step z61_0 hb); have n1_ := Aside0.mk (hbox); have n2_ := Aside0.mk ((z61_3 : w.heap.size ≤ gb366)); have n3_ := Aside0.mk ((z61_3 : w.heap.size ≤ gb366)); clear HB; have HB := n0_; have BK366 := n1_; have GW366 := n2_; have GE366 := n3_; clear n0_ n1_ n2_ n3_; clear hb hbox hg; have hcz23_0 : w22.cell? ⟨gb366, 0, none⟩ = some (.int .i64 a0_0) := (bC_ BK366.out 0).trans rfl; have hcz23_1 : w22.cell? ⟨gb366, 1, none⟩ = some (.int .i64 a0_1) := (bC_ BK366.out 1).trans rfl; have hcz23_2 : w22.cell? ⟨gb366, 2, none⟩ = some (.int .i64 a0_2) := (bC_ BK366.out 2).trans rfl; have hcz23_3 : w22.cell? ⟨gb366, 3, none⟩ = some (.int .i64 a0_3) := (bC_ BK366.out 3).trans rfl; have hcz23_4 : w22.cell? ⟨gb366, 4, none⟩ = some (.int .i64 a0_4) := (bC_ BK366.out 4).trans rfl; have hcz23_5 : w22.cell? ⟨gb366, 5, none⟩ = some (.int .i64 a0_5) := (bC_ BK366.out 5).trans rfl; have hfz23_0 := bF_ BK366.out 0; have hfz23_1 := bF_ BK366.out 1; have hfz23_2 := bF_ BK366.out 2; have hfz23_3 := bF_ BK366.out 3; have hfz23_4 := bF_ BK366.out 4; have hfz23_5 := bF_ BK366.out 5) | ((with_reducible refine gate_callee (f := 80) rfl ?_); refine goesL_ (some 4) rfl rfl Try.func80 (by kernel_rfl) rfl #[.agg #[.int .i64 a0_0, .int .i64 a0_1, .int .i64 a0_2, .int .i64 a0_3, .int .i64 a0_4, .int .i64 a0_5]] rfl z61_2 ?_; (with_reducible refine (impl_isClaim.calls a0_0 a0_1 a0_2 a0_3 a0_4 a0_5 true _ A2.out).mono ?_); rintro e w24 ⟨rfl, hb⟩; refine ⟨_, rfl, ?_⟩; have n0_ := Aside0.mk (blk_below (g := gb366) (o := .cells #[.int .i64 a0_0, .int .i64 a0_1, .int .i64 a0_2, .int .i64 a0_3, .int .i64 a0_4, .int .i64 a0_5] 54 (0, 0)) (pB61_ BK366.out) hb); have n1_ := Aside0.mk (below_step z61_1 hb); clear BK366; clear HB; have BK366 := n0_; have HB := n1_; clear n0_ n1_; (try clear hb); (try clear hb2); (try clear hk); (try clear hi); have hcz25_0 : w24.cell? ⟨gb366, 0, none⟩ = some (.int .i64 a0_0) := (bC_ BK366.out 0).trans rfl; have hcz25_1 : w24.cell? ⟨gb366, 1, none⟩ = some (.int .i64 a0_1) := (bC_ BK366.out 1).trans rfl; have hcz25_2 : w24.cell? ⟨gb366, 2, none⟩ = some (.int .i64 a0_2) := (bC_ BK366.out 2).trans rfl; have hcz25_3 : w24.cell? ⟨gb366, 3, none⟩ = some (.int .i64 a0_3) := (bC_ BK366.out 3).trans rfl; have hcz25_4 : w24.cell? ⟨gb366, 4, none⟩ = some (.int .i64 a0_4) := (bC_ BK366.out 4).trans rfl; have hcz25_5 : w24.cell? ⟨gb366, 5, none⟩ = some (.int .i64 a0_5) := (bC_ BK366.out 5).trans rfl; have hfz25_0 := bF_ BK366.out 0; have hfz25_1 := bF_ BK366.out 1; have hfz25_2 := bF_ BK366.out 2; have hfz25_3 := bF_ BK366.out 3; have hfz25_4 := bF_ BK366.out 4; have hfz25_5 := bF_ BK366.out 5) | (go_at_call 56; (with_reducible refine (impl_InRange.calls a0_3 0 9 false _ A4.out).mono ?_); rintro e w' ⟨rfl, ⟨nd, rfl⟩⟩))
      go_ret
      exact ⟨by first | rfl | (simp [errW_none, errW_some] <;> rfl) | (simp [*, errW_none, errW_some] <;> rfl), by repeat (first | (with_reducible first | exact HB.out | apply bA_ | apply bN_ | apply bD_ | refine bS_ ?_ GE366.out) | exact HB.out)⟩
  · replace c3 := Bool.eq_false_iff.mpr c3
    subst c3
    have H1 : (some false) = some r := by rw [if_neg (show ¬ (false = true) by decide)] at H; exact H
    clear H
    have H := H1
    clear H1
    obtain rfl := Option.some.inj H
    go_enter Try.func61, Try.ntmps61
    go_wp2_with (first | ((with_reducible refine gate_dst (N := 1) rfl ?_); refine box_event ?hg (N := 1) ?hd (cs := #[.int .i64 a0_0, .int .i64 a0_1, .int .i64 a0_2, .int .i64 a0_3, .int .i64 a0_4, .int .i64 a0_5]) (t := 54) ?hr ?_; (case hd => rfl); (case hg => rfl); (case hr => first | (go_simp; done) | (go_simp; rfl)); intro gb366 hg w26 hbox hb; have n0_ := Aside0.mk (below_step z61_0 hb); have n1_ := Aside0.mk (hbox); have n2_ := Aside0.mk ((z61_3 : w.heap.size ≤ gb366)); have n3_ := Aside0.mk ((z61_3 : w.heap.size ≤ gb366)); clear HB; have HB := n0_; have BK366 := n1_; have GW366 := n2_; have GE366 := n3_; clear n0_ n1_ n2_ n3_; clear hb hbox hg; have hcz27_0 : w26.cell? ⟨gb366, 0, none⟩ = some (.int .i64 a0_0) := (bC_ BK366.out 0).trans rfl; have hcz27_1 : w26.cell? ⟨gb366, 1, none⟩ = some (.int .i64 a0_1) := (bC_ BK366.out 1).trans rfl; have hcz27_2 : w26.cell? ⟨gb366, 2, none⟩ = some (.int .i64 a0_2) := (bC_ BK366.out 2).trans rfl; have hcz27_3 : w26.cell? ⟨gb366, 3, none⟩ = some (.int .i64 a0_3) := (bC_ BK366.out 3).trans rfl; have hcz27_4 : w26.cell? ⟨gb366, 4, none⟩ = some (.int .i64 a0_4) := (bC_ BK366.out 4).trans rfl; have hcz27_5 : w26.cell? ⟨gb366, 5, none⟩ = some (.int .i64 a0_5) := (bC_ BK366.out 5).trans rfl; have hfz27_0 := bF_ BK366.out 0; have hfz27_1 := bF_ BK366.out 1; have hfz27_2 := bF_ BK366.out 2; have hfz27_3 := bF_ BK366.out 3; have hfz27_4 := bF_ BK366.out 4; have hfz27_5 := bF_ BK366.out 5) | ((with_reducible refine gate_callee (f := 80) rfl ?_); refine goesL_ (some 4) rfl rfl Try.func80 (by kernel_rfl) rfl #[.agg #[.int .i64 a0_0, .int .i64 a0_1, .int .i64 a0_2, .int .i64 a0_3, .int .i64 a0_4, .int .i64 a0_5]] rfl z61_2 ?_; (with_reducible refine (impl_isClaim.calls a0_0 a0_1 a0_2 a0_3 a0_4 a0_5 false _ A2.out).mono ?_); rintro e w28 ⟨rfl, hb⟩; refine ⟨_, rfl, ?_⟩; have n0_ := Aside0.mk (blk_below (g := gb366) (o := .cells #[.int .i64 a0_0, .int .i64 a0_1, .int .i64 a0_2, .int .i64 a0_3, .int .i64 a0_4, .int .i64 a0_5] 54 (0, 0)) (pB61_ BK366.out) hb); have n1_ := Aside0.mk (below_step z61_1 hb); clear BK366; clear HB; have BK366 := n0_; have HB := n1_; clear n0_ n1_; (try clear hb); (try clear hb2); (try clear hk); (try clear hi)))
    go_ret
    exact ⟨by first | rfl | (simp [errW_none, errW_some] <;> rfl) | (simp [*, errW_none, errW_some] <;> rfl), by repeat (first | (with_reducible first | exact HB.out | apply bA_ | apply bN_ | apply bD_ | refine bS_ ?_ GE366.out) | exact HB.out)⟩

/-! ### impl_IsWithin: function 63 -/
def impl_IsWithin.f (a0 : Int) (a1 : Int) (a2 : Int) : Option (Bool) := (impl_IsTime.f a0).bind fun t371 => (if t371 = true then ((impl_IsTime.f a1).bind fun t372 => (if t372 = true then ((impl_IsTime.f a2).bind fun t373 => (if t373 = true then ((impl_InRange.f a2 a0 a1).bind fun t374 => (some t374)) else (some false))) else (some false))) else (some false))
theorem z63_0 {Q : Prop} (g : Q := by (try simp only [List.map_toArray, List.map_cons, List.map_nil]); first | done | rfl | (simp only [List.length_drop, List.length_take]; rfl)) : Q := g
set_option maxHeartbeats 8000000 in
set_option maxRecDepth 100000 in
theorem impl_IsWithin.calls (a0 : Int) (a1 : Int) (a2 : Int) (r : Bool) (w : World) (h : impl_IsWithin.f a0 a1 a2 = some r) :
    Calls Try.prog 63 #[.int .i64 a0, .int .i64 a1, .int .i64 a2] w fun e w' => e = .returned (.bool r) ∧ Drawn0 w w' := by
  have H : ((impl_IsTime.f a0).bind fun t371 => (if t371 = true then ((impl_IsTime.f a1).bind fun t372 => (if t372 = true then ((impl_IsTime.f a2).bind fun t373 => (if t373 = true then ((impl_InRange.f a2 a0 a1).bind fun t374 => (some t374)) else (some false))) else (some false))) else (some false))) = some r := h
  clear h
  replace H := Option.bind_eq_some_iff.mp H
  obtain ⟨t371, A40, H⟩ := H
  replace H : (if t371 = true then ((impl_IsTime.f a1).bind fun t372 => (if t372 = true then ((impl_IsTime.f a2).bind fun t373 => (if t373 = true then ((impl_InRange.f a2 a0 a1).bind fun t374 => (some t374)) else (some false))) else (some false))) else (some false)) = some r := H
  have A4 := Aside0.mk A40
  clear A40
  by_cases c5 : t371 = true
  · subst c5
    have H1 : ((impl_IsTime.f a1).bind fun t372 => (if t372 = true then ((impl_IsTime.f a2).bind fun t373 => (if t373 = true then ((impl_InRange.f a2 a0 a1).bind fun t374 => (some t374)) else (some false))) else (some false))) = some r := by rw [if_pos rfl] at H; exact H
    clear H
    have H := H1
    clear H1
    replace H := Option.bind_eq_some_iff.mp H
    obtain ⟨t372, A60, H⟩ := H
    replace H : (if t372 = true then ((impl_IsTime.f a2).bind fun t373 => (if t373 = true then ((impl_InRange.f a2 a0 a1).bind fun t374 => (some t374)) else (some false))) else (some false)) = some r := H
    have A6 := Aside0.mk A60
    clear A60
    by_cases c7 : t372 = true
    · subst c7
      have H1 : ((impl_IsTime.f a2).bind fun t373 => (if t373 = true then ((impl_InRange.f a2 a0 a1).bind fun t374 => (some t374)) else (some false))) = some r := by rw [if_pos rfl] at H; exact H
      clear H
      have H := H1
      clear H1
      replace H := Option.bind_eq_some_iff.mp H
      obtain ⟨t373, A80, H⟩ := H
      replace H : (if t373 = true then ((impl_InRange.f a2 a0 a1).bind fun t374 => (some t374)) else (some false)) = some r := H
      have A8 := Aside0.mk A80
      clear A80
      by_cases c9 : t373 = true
      · subst c9
        have H1 : ((impl_InRange.f a2 a0 a1).bind fun t374 => (some t374)) = some r := by rw [if_pos rfl] at H; exact H
        clear H
        have H := H1
        clear H1
        replace H := Option.bind_eq_some_iff.mp H
        obtain ⟨t374, A100, H⟩ := H
        replace H : (some t374) = some r := H
        have A10 := Aside0.mk A100
        clear A100
        obtain rfl := Option.some.inj H
        go_enter Try.func63, Try.ntmps63
        go_wp2_with (first | ((with_reducible refine gate_callee (f := 44) rfl ?_); refine goesL_ (some 8) rfl rfl Try.func44 (by kernel_rfl) rfl #[.int .i64 a0] rfl z63_0 ?_; (with_reducible refine (impl_IsTime.calls a0 true _ A4.out).mono ?_); rintro e w' ⟨rfl, ⟨nd, rfl⟩⟩; refine ⟨_, rfl, ?_⟩) | (go_at_call 44; (with_reducible refine (impl_IsTime.calls a1 true _ A6.out).mono ?_); rintro e w' ⟨rfl, ⟨nd, rfl⟩⟩) | (go_at_call 44; (with_reducible refine (impl_IsTime.calls a2 true _ A8.out).mono ?_); rintro e w' ⟨rfl, ⟨nd, rfl⟩⟩) | (go_at_call 56; (with_reducible refine (impl_InRange.calls a2 a0 a1 t374 _ A10.out).mono ?_); rintro e w' ⟨rfl, ⟨nd, rfl⟩⟩))
        go_ret
        exact ⟨by first | rfl | (simp; done) | (simp [*]; done), by repeat (first | exact Drawn0.refl _ | apply Drawn0.step)⟩
      · replace c9 := Bool.eq_false_iff.mpr c9
        subst c9
        have H1 : (some false) = some r := by rw [if_neg (show ¬ (false = true) by decide)] at H; exact H
        clear H
        have H := H1
        clear H1
        obtain rfl := Option.some.inj H
        go_enter Try.func63, Try.ntmps63
        go_wp2_with (first | ((with_reducible refine gate_callee (f := 44) rfl ?_); refine goesL_ (some 8) rfl rfl Try.func44 (by kernel_rfl) rfl #[.int .i64 a0] rfl z63_0 ?_; (with_reducible refine (impl_IsTime.calls a0 true _ A4.out).mono ?_); rintro e w' ⟨rfl, ⟨nd, rfl⟩⟩; refine ⟨_, rfl, ?_⟩) | (go_at_call 44; (with_reducible refine (impl_IsTime.calls a1 true _ A6.out).mono ?_); rintro e w' ⟨rfl, ⟨nd, rfl⟩⟩) | (go_at_call 44; (with_reducible refine (impl_IsTime.calls a2 false _ A8.out).mono ?_); rintro e w' ⟨rfl, ⟨nd, rfl⟩⟩))
        go_ret
        exact ⟨by first | rfl | (simp; done) | (simp [*]; done), by repeat (first | exact Drawn0.refl _ | apply Drawn0.step)⟩
    · replace c7 := Bool.eq_false_iff.mpr c7
      subst c7
      have H1 : (some false) = some r := by rw [if_neg (show ¬ (false = true) by decide)] at H; exact H
      clear H
      have H := H1
      clear H1
      obtain rfl := Option.some.inj H
      go_enter Try.func63, Try.ntmps63
      go_wp2_with (first | ((with_reducible refine gate_callee (f := 44) rfl ?_); refine goesL_ (some 8) rfl rfl Try.func44 (by kernel_rfl) rfl #[.int .i64 a0] rfl z63_0 ?_; (with_reducible refine (impl_IsTime.calls a0 true _ A4.out).mono ?_); rintro e w' ⟨rfl, ⟨nd, rfl⟩⟩; refine ⟨_, rfl, ?_⟩) | (go_at_call 44; (with_reducible refine (impl_IsTime.calls a1 false _ A6.out).mono ?_); rintro e w' ⟨rfl, ⟨nd, rfl⟩⟩))
      go_ret
      exact ⟨by first | rfl | (simp; done) | (simp [*]; done), by repeat (first | exact Drawn0.refl _ | apply Drawn0.step)⟩
  · replace c5 := Bool.eq_false_iff.mpr c5
    subst c5
    have H1 : (some false) = some r := by rw [if_neg (show ¬ (false = true) by decide)] at H; exact H
    clear H
    have H := H1
    clear H1
    obtain rfl := Option.some.inj H
    go_enter Try.func63, Try.ntmps63
    go_wp2_with (first | ((with_reducible refine gate_callee (f := 44) rfl ?_); refine goesL_ (some 8) rfl rfl Try.func44 (by kernel_rfl) rfl #[.int .i64 a0] rfl z63_0 ?_; (with_reducible refine (impl_IsTime.calls a0 false _ A4.out).mono ?_); rintro e w' ⟨rfl, ⟨nd, rfl⟩⟩; refine ⟨_, rfl, ?_⟩))
    go_ret
    exact ⟨by first | rfl | (simp; done) | (simp [*]; done), by repeat (first | exact Drawn0.refl _ | apply Drawn0.step)⟩

/-! ### impl_AgeOf: function 64 -/
def impl_AgeOf.f (a0 : Int) (a1 : Int) : Option (Int) := (impl_IsTime.f a0).bind fun t375 => (if t375 = true then ((impl_IsTime.f a1).bind fun t376 => (if t376 = true then (if a0 > a1 then (some (-1)) else (some (wrap64 (a1 - a0)))) else (some (-1)))) else (some (-1)))
theorem z64_0 {Q : Prop} (g : Q := by (try simp only [List.map_toArray, List.map_cons, List.map_nil]); first | done | rfl | (simp only [List.length_drop, List.length_take]; rfl)) : Q := g
set_option maxHeartbeats 8000000 in
set_option maxRecDepth 100000 in
theorem impl_AgeOf.calls (a0 : Int) (a1 : Int) (r : Int) (w : World) (h : impl_AgeOf.f a0 a1 = some r) :
    Calls Try.prog 64 #[.int .i64 a0, .int .i64 a1] w fun e w' => e = .returned (.int .i64 r) ∧ Drawn0 w w' := by
  have H : ((impl_IsTime.f a0).bind fun t375 => (if t375 = true then ((impl_IsTime.f a1).bind fun t376 => (if t376 = true then (if a0 > a1 then (some (-1)) else (some (wrap64 (a1 - a0)))) else (some (-1)))) else (some (-1)))) = some r := h
  clear h
  replace H := Option.bind_eq_some_iff.mp H
  obtain ⟨t375, A30, H⟩ := H
  replace H : (if t375 = true then ((impl_IsTime.f a1).bind fun t376 => (if t376 = true then (if a0 > a1 then (some (-1)) else (some (wrap64 (a1 - a0)))) else (some (-1)))) else (some (-1))) = some r := H
  have A3 := Aside0.mk A30
  clear A30
  by_cases c4 : t375 = true
  · subst c4
    have H1 : ((impl_IsTime.f a1).bind fun t376 => (if t376 = true then (if a0 > a1 then (some (-1)) else (some (wrap64 (a1 - a0)))) else (some (-1)))) = some r := by rw [if_pos rfl] at H; exact H
    clear H
    have H := H1
    clear H1
    replace H := Option.bind_eq_some_iff.mp H
    obtain ⟨t376, A50, H⟩ := H
    replace H : (if t376 = true then (if a0 > a1 then (some (-1)) else (some (wrap64 (a1 - a0)))) else (some (-1))) = some r := H
    have A5 := Aside0.mk A50
    clear A50
    by_cases c6 : t376 = true
    · subst c6
      have H1 : (if a0 > a1 then (some (-1)) else (some (wrap64 (a1 - a0)))) = some r := by rw [if_pos rfl] at H; exact H
      clear H
      have H := H1
      clear H1
      by_cases c7 : a0 > a1
      · rw [if_pos c7] at H
        have c7b0 : decide (a1 < a0) = true := decide_eq_true c7
        clear c7
        obtain rfl := Option.some.inj H
        go_enter Try.func64, Try.ntmps64
        go_wp2_with (first | ((with_reducible refine gate_callee (f := 44) rfl ?_); refine goesL_ (some 6) rfl rfl Try.func44 (by kernel_rfl) rfl #[.int .i64 a0] rfl z64_0 ?_; (with_reducible refine (impl_IsTime.calls a0 true _ A3.out).mono ?_); rintro e w' ⟨rfl, ⟨nd, rfl⟩⟩; refine ⟨_, rfl, ?_⟩) | (go_at_call 44; (with_reducible refine (impl_IsTime.calls a1 true _ A5.out).mono ?_); rintro e w' ⟨rfl, ⟨nd, rfl⟩⟩))
        go_ret
        exact ⟨by first | rfl | (simp; done) | (simp [*]; done), by repeat (first | exact Drawn0.refl _ | apply Drawn0.step)⟩
      · rw [if_neg c7] at H
        have c7b0 : decide (a1 < a0) = false := decide_eq_false c7
        clear c7
        obtain rfl := Option.some.inj H
        go_enter Try.func64, Try.ntmps64
        go_wp2_with (first | ((with_reducible refine gate_callee (f := 44) rfl ?_); refine goesL_ (some 6) rfl rfl Try.func44 (by kernel_rfl) rfl #[.int .i64 a0] rfl z64_0 ?_; (with_reducible refine (impl_IsTime.calls a0 true _ A3.out).mono ?_); rintro e w' ⟨rfl, ⟨nd, rfl⟩⟩; refine ⟨_, rfl, ?_⟩) | (go_at_call 44; (with_reducible refine (impl_IsTime.calls a1 true _ A5.out).mono ?_); rintro e w' ⟨rfl, ⟨nd, rfl⟩⟩))
        go_ret
        exact ⟨by first | rfl | (simp; done) | (simp [*]; done), by repeat (first | exact Drawn0.refl _ | apply Drawn0.step)⟩
    · replace c6 := Bool.eq_false_iff.mpr c6
      subst c6
      have H1 : (some (-1)) = some r := by rw [if_neg (show ¬ (false = true) by decide)] at H; exact H
      clear H
      have H := H1
      clear H1
      obtain rfl := Option.some.inj H
      go_enter Try.func64, Try.ntmps64
      go_wp2_with (first | ((with_reducible refine gate_callee (f := 44) rfl ?_); refine goesL_ (some 6) rfl rfl Try.func44 (by kernel_rfl) rfl #[.int .i64 a0] rfl z64_0 ?_; (with_reducible refine (impl_IsTime.calls a0 true _ A3.out).mono ?_); rintro e w' ⟨rfl, ⟨nd, rfl⟩⟩; refine ⟨_, rfl, ?_⟩) | (go_at_call 44; (with_reducible refine (impl_IsTime.calls a1 false _ A5.out).mono ?_); rintro e w' ⟨rfl, ⟨nd, rfl⟩⟩))
      go_ret
      exact ⟨by first | rfl | (simp; done) | (simp [*]; done), by repeat (first | exact Drawn0.refl _ | apply Drawn0.step)⟩
  · replace c4 := Bool.eq_false_iff.mpr c4
    subst c4
    have H1 : (some (-1)) = some r := by rw [if_neg (show ¬ (false = true) by decide)] at H; exact H
    clear H
    have H := H1
    clear H1
    obtain rfl := Option.some.inj H
    go_enter Try.func64, Try.ntmps64
    go_wp2_with (first | ((with_reducible refine gate_callee (f := 44) rfl ?_); refine goesL_ (some 6) rfl rfl Try.func44 (by kernel_rfl) rfl #[.int .i64 a0] rfl z64_0 ?_; (with_reducible refine (impl_IsTime.calls a0 false _ A3.out).mono ?_); rintro e w' ⟨rfl, ⟨nd, rfl⟩⟩; refine ⟨_, rfl, ?_⟩))
    go_ret
    exact ⟨by first | rfl | (simp; done) | (simp [*]; done), by repeat (first | exact Drawn0.refl _ | apply Drawn0.step)⟩

/-! ### impl_HoldsAt: function 43 -/
def impl_HoldsAt.f (a0_0 : Int) (a0_1 : Int) (a0_2 : Int) (a0_3 : Int) (a0_4 : Int) (a0_5 : Int) (a1 : Int) (a2 : Int) : Option (Bool) := (impl_IsFact.f a0_0 a0_1 a0_2 a0_3 a0_4 a0_5).bind fun t378 => (if t378 = true then ((impl_IsWithin.f a0_4 a0_5 a1).bind fun t379 => (if t379 = true then ((impl_AgeOf.f a0_4 a1).bind fun t380 => (some (decide (t380 ≤ a2)))) else (some false))) else (some false))
theorem pB43_ {P Q : Prop} (h : P) (g : P → Q := by intro h_; (with_reducible repeat (first | refine blk_drewN ?_ _ | refine blk_drew ?_ | refine blk_alloc ?_ _)); exact h_) : Q := g h
theorem z43_0 {Q : Prop} (g : Q := by repeat (first | (with_reducible first | exact HB.out | apply bA_ | apply bN_ | apply bD_) | exact HB.out)) : Q := g
theorem z43_1 {Q : Prop} (g : Q := by repeat (first | (with_reducible first | exact HB.out | apply bA_ | apply bN_ | apply bD_ | refine bS_ ?_ GE377.out) | exact HB.out)) : Q := g
theorem z43_2 {Q : Prop} (g : Q := by (try simp only [List.map_toArray, List.map_cons, List.map_nil]); first | done | rfl | (simp only [List.length_drop, List.length_take]; rfl)) : Q := g
set_option maxHeartbeats 8000000 in
set_option maxRecDepth 100000 in
theorem impl_HoldsAt.calls (a0_0 : Int) (a0_1 : Int) (a0_2 : Int) (a0_3 : Int) (a0_4 : Int) (a0_5 : Int) (a1 : Int) (a2 : Int) (r : Bool) (w : World) (h : impl_HoldsAt.f a0_0 a0_1 a0_2 a0_3 a0_4 a0_5 a1 a2 = some r) :
    Calls Try.prog 43 #[.agg #[.int .i64 a0_0, .int .i64 a0_1, .int .i64 a0_2, .int .i64 a0_3, .int .i64 a0_4, .int .i64 a0_5], .int .i64 a1, .int .i64 a2] w fun e w' => e = .returned (.bool r) ∧ Below w.heap.size w w' := by
  have hu54 := Try.underlying54
  have HB := Aside0.mk (Below.refl w.heap.size w)
  have H : ((impl_IsFact.f a0_0 a0_1 a0_2 a0_3 a0_4 a0_5).bind fun t378 => (if t378 = true then ((impl_IsWithin.f a0_4 a0_5 a1).bind fun t379 => (if t379 = true then ((impl_AgeOf.f a0_4 a1).bind fun t380 => (some (decide (t380 ≤ a2)))) else (some false))) else (some false))) = some r := h
  clear h
  replace H := Option.bind_eq_some_iff.mp H
  obtain ⟨t378, A40, H⟩ := H
  replace H : (if t378 = true then ((impl_IsWithin.f a0_4 a0_5 a1).bind fun t379 => (if t379 = true then ((impl_AgeOf.f a0_4 a1).bind fun t380 => (some (decide (t380 ≤ a2)))) else (some false))) else (some false)) = some r := H
  have A4 := Aside0.mk A40
  clear A40
  by_cases c5 : t378 = true
  · subst c5
    have H1 : ((impl_IsWithin.f a0_4 a0_5 a1).bind fun t379 => (if t379 = true then ((impl_AgeOf.f a0_4 a1).bind fun t380 => (some (decide (t380 ≤ a2)))) else (some false))) = some r := by rw [if_pos rfl] at H; exact H
    clear H
    have H := H1
    clear H1
    replace H := Option.bind_eq_some_iff.mp H
    obtain ⟨t379, A60, H⟩ := H
    replace H : (if t379 = true then ((impl_AgeOf.f a0_4 a1).bind fun t380 => (some (decide (t380 ≤ a2)))) else (some false)) = some r := H
    have A6 := Aside0.mk A60
    clear A60
    by_cases c7 : t379 = true
    · subst c7
      have H1 : ((impl_AgeOf.f a0_4 a1).bind fun t380 => (some (decide (t380 ≤ a2)))) = some r := by rw [if_pos rfl] at H; exact H
      clear H
      have H := H1
      clear H1
      replace H := Option.bind_eq_some_iff.mp H
      obtain ⟨t380, A80, H⟩ := H
      replace H : (some (decide (t380 ≤ a2))) = some r := H
      have A8 := Aside0.mk A80
      clear A80
      obtain rfl := Option.some.inj H
      go_enter Try.func43, Try.ntmps43
      go_wp2_with (first | ((with_reducible refine gate_dst (N := 3) rfl ?_); refine box_event ?hg (N := 3) ?hd (cs := #[.int .i64 a0_0, .int .i64 a0_1, .int .i64 a0_2, .int .i64 a0_3, .int .i64 a0_4, .int .i64 a0_5]) (t := 54) ?hr ?_; (case hd => rfl); (case hg => rfl); (case hr => first | (go_simp; done) | (go_simp; rfl)); intro gb377 hg w9 hbox hb; have n0_ := Aside0.mk (below_step z43_0 hb); have n1_ := Aside0.mk (hbox); have n2_ := Aside0.mk ((by rw [hg]; exact (below_size z43_0) : w.heap.size ≤ gb377)); have n3_ := Aside0.mk ((by rw [hg]; exact (below_size z43_0) : w.heap.size ≤ gb377)); clear HB; have HB := n0_; have BK377 := n1_; have GW377 := n2_; have GE377 := n3_; clear n0_ n1_ n2_ n3_; clear hb hbox hg; have hcz10_0 : w9.cell? ⟨gb377, 0, none⟩ = some (.int .i64 a0_0) := (bC_ BK377.out 0).trans rfl; have hcz10_1 : w9.cell? ⟨gb377, 1, none⟩ = some (.int .i64 a0_1) := (bC_ BK377.out 1).trans rfl; have hcz10_2 : w9.cell? ⟨gb377, 2, none⟩ = some (.int .i64 a0_2) := (bC_ BK377.out 2).trans rfl; have hcz10_3 : w9.cell? ⟨gb377, 3, none⟩ = some (.int .i64 a0_3) := (bC_ BK377.out 3).trans rfl; have hcz10_4 : w9.cell? ⟨gb377, 4, none⟩ = some (.int .i64 a0_4) := (bC_ BK377.out 4).trans rfl; have hcz10_5 : w9.cell? ⟨gb377, 5, none⟩ = some (.int .i64 a0_5) := (bC_ BK377.out 5).trans rfl; have hfz10_0 := bF_ BK377.out 0; have hfz10_1 := bF_ BK377.out 1; have hfz10_2 := bF_ BK377.out 2; have hfz10_3 := bF_ BK377.out 3; have hfz10_4 := bF_ BK377.out 4; have hfz10_5 := bF_ BK377.out 5) | ((with_reducible refine gate_callee (f := 61) rfl ?_); refine goesL_ (some 8) rfl rfl Try.func61 (by kernel_rfl) rfl #[.agg #[.int .i64 a0_0, .int .i64 a0_1, .int .i64 a0_2, .int .i64 a0_3, .int .i64 a0_4, .int .i64 a0_5]] rfl z43_2 ?_; (with_reducible refine (impl_IsFact.calls a0_0 a0_1 a0_2 a0_3 a0_4 a0_5 true _ A4.out).mono ?_); rintro e w11 ⟨rfl, hb⟩; refine ⟨_, rfl, ?_⟩; have n0_ := Aside0.mk (blk_below (g := gb377) (o := .cells #[.int .i64 a0_0, .int .i64 a0_1, .int .i64 a0_2, .int .i64 a0_3, .int .i64 a0_4, .int .i64 a0_5] 54 (0, 0)) (pB43_ BK377.out) hb); have n1_ := Aside0.mk (below_step z43_1 hb); clear BK377; clear HB; have BK377 := n0_; have HB := n1_; clear n0_ n1_; (try clear hb); (try clear hb2); (try clear hk); (try clear hi); have hcz12_0 : w11.cell? ⟨gb377, 0, none⟩ = some (.int .i64 a0_0) := (bC_ BK377.out 0).trans rfl; have hcz12_1 : w11.cell? ⟨gb377, 1, none⟩ = some (.int .i64 a0_1) := (bC_ BK377.out 1).trans rfl; have hcz12_2 : w11.cell? ⟨gb377, 2, none⟩ = some (.int .i64 a0_2) := (bC_ BK377.out 2).trans rfl; have hcz12_3 : w11.cell? ⟨gb377, 3, none⟩ = some (.int .i64 a0_3) := (bC_ BK377.out 3).trans rfl; have hcz12_4 : w11.cell? ⟨gb377, 4, none⟩ = some (.int .i64 a0_4) := (bC_ BK377.out 4).trans rfl; have hcz12_5 : w11.cell? ⟨gb377, 5, none⟩ = some (.int .i64 a0_5) := (bC_ BK377.out 5).trans rfl; have hfz12_0 := bF_ BK377.out 0; have hfz12_1 := bF_ BK377.out 1; have hfz12_2 := bF_ BK377.out 2; have hfz12_3 := bF_ BK377.out 3; have hfz12_4 := bF_ BK377.out 4; have hfz12_5 := bF_ BK377.out 5) | (go_at_call 63; (with_reducible refine (impl_IsWithin.calls a0_4 a0_5 a1 true _ A6.out).mono ?_); rintro e w' ⟨rfl, ⟨nd, rfl⟩⟩) | (go_at_call 64; (with_reducible refine (impl_AgeOf.calls a0_4 a1 t380 _ A8.out).mono ?_); rintro e w' ⟨rfl, ⟨nd, rfl⟩⟩))
      go_ret
      exact ⟨by first | rfl | (simp [errW_none, errW_some] <;> rfl) | (simp [*, errW_none, errW_some] <;> rfl), by repeat (first | (with_reducible first | exact HB.out | apply bA_ | apply bN_ | apply bD_ | refine bS_ ?_ GE377.out) | exact HB.out)⟩
    · replace c7 := Bool.eq_false_iff.mpr c7
      subst c7
      have H1 : (some false) = some r := by rw [if_neg (show ¬ (false = true) by decide)] at H; exact H
      clear H
      have H := H1
      clear H1
      obtain rfl := Option.some.inj H
      go_enter Try.func43, Try.ntmps43
      go_wp2_with (first | ((with_reducible refine gate_dst (N := 3) rfl ?_); refine box_event ?hg (N := 3) ?hd (cs := #[.int .i64 a0_0, .int .i64 a0_1, .int .i64 a0_2, .int .i64 a0_3, .int .i64 a0_4, .int .i64 a0_5]) (t := 54) ?hr ?_; (case hd => rfl); (case hg => rfl); (case hr => first | (go_simp; done) | (go_simp; rfl)); intro gb377 hg w13 hbox hb; have n0_ := Aside0.mk (below_step z43_0 hb); have n1_ := Aside0.mk (hbox); have n2_ := Aside0.mk ((by rw [hg]; exact (below_size z43_0) : w.heap.size ≤ gb377)); have n3_ := Aside0.mk ((by rw [hg]; exact (below_size z43_0) : w.heap.size ≤ gb377)); clear HB; have HB := n0_; have BK377 := n1_; have GW377 := n2_; have GE377 := n3_; clear n0_ n1_ n2_ n3_; clear hb hbox hg; have hcz14_0 : w13.cell? ⟨gb377, 0, none⟩ = some (.int .i64 a0_0) := (bC_ BK377.out 0).trans rfl; have hcz14_1 : w13.cell? ⟨gb377, 1, none⟩ = some (.int .i64 a0_1) := (bC_ BK377.out 1).trans rfl; have hcz14_2 : w13.cell? ⟨gb377, 2, none⟩ = some (.int .i64 a0_2) := (bC_ BK377.out 2).trans rfl; have hcz14_3 : w13.cell? ⟨gb377, 3, none⟩ = some (.int .i64 a0_3) := (bC_ BK377.out 3).trans rfl; have hcz14_4 : w13.cell? ⟨gb377, 4, none⟩ = some (.int .i64 a0_4) := (bC_ BK377.out 4).trans rfl; have hcz14_5 : w13.cell? ⟨gb377, 5, none⟩ = some (.int .i64 a0_5) := (bC_ BK377.out 5).trans rfl; have hfz14_0 := bF_ BK377.out 0; have hfz14_1 := bF_ BK377.out 1; have hfz14_2 := bF_ BK377.out 2; have hfz14_3 := bF_ BK377.out 3; have hfz14_4 := bF_ BK377.out 4; have hfz14_5 := bF_ BK377.out 5) | ((with_reducible refine gate_callee (f := 61) rfl ?_); refine goesL_ (some 8) rfl rfl Try.func61 (by kernel_rfl) rfl #[.agg #[.int .i64 a0_0, .int .i64 a0_1, .int .i64 a0_2, .int .i64 a0_3, .int .i64 a0_4, .int .i64 a0_5]] rfl z43_2 ?_; (with_reducible refine (impl_IsFact.calls a0_0 a0_1 a0_2 a0_3 a0_4 a0_5 true _ A4.out).mono ?_); rintro e w15 ⟨rfl, hb⟩; refine ⟨_, rfl, ?_⟩; have n0_ := Aside0.mk (blk_below (g := gb377) (o := .cells #[.int .i64 a0_0, .int .i64 a0_1, .int .i64 a0_2, .int .i64 a0_3, .int .i64 a0_4, .int .i64 a0_5] 54 (0, 0)) (pB43_ BK377.out) hb); have n1_ := Aside0.mk (below_step z43_1 hb); clear BK377; clear HB; have BK377 := n0_; have HB := n1_; clear n0_ n1_; (try clear hb); (try clear hb2); (try clear hk); (try clear hi); have hcz16_0 : w15.cell? ⟨gb377, 0, none⟩ = some (.int .i64 a0_0) := (bC_ BK377.out 0).trans rfl; have hcz16_1 : w15.cell? ⟨gb377, 1, none⟩ = some (.int .i64 a0_1) := (bC_ BK377.out 1).trans rfl; have hcz16_2 : w15.cell? ⟨gb377, 2, none⟩ = some (.int .i64 a0_2) := (bC_ BK377.out 2).trans rfl; have hcz16_3 : w15.cell? ⟨gb377, 3, none⟩ = some (.int .i64 a0_3) := (bC_ BK377.out 3).trans rfl; have hcz16_4 : w15.cell? ⟨gb377, 4, none⟩ = some (.int .i64 a0_4) := (bC_ BK377.out 4).trans rfl; have hcz16_5 : w15.cell? ⟨gb377, 5, none⟩ = some (.int .i64 a0_5) := (bC_ BK377.out 5).trans rfl; have hfz16_0 := bF_ BK377.out 0; have hfz16_1 := bF_ BK377.out 1; have hfz16_2 := bF_ BK377.out 2; have hfz16_3 := bF_ BK377.out 3; have hfz16_4 := bF_ BK377.out 4; have hfz16_5 := bF_ BK377.out 5) | (go_at_call 63; (with_reducible refine (impl_IsWithin.calls a0_4 a0_5 a1 false _ A6.out).mono ?_); rintro e w' ⟨rfl, ⟨nd, rfl⟩⟩))
      go_ret
      exact ⟨by first | rfl | (simp [errW_none, errW_some] <;> rfl) | (simp [*, errW_none, errW_some] <;> rfl), by repeat (first | (with_reducible first | exact HB.out | apply bA_ | apply bN_ | apply bD_ | refine bS_ ?_ GE377.out) | exact HB.out)⟩
  · replace c5 := Bool.eq_false_iff.mpr c5
    subst c5
    have H1 : (some false) = some r := by rw [if_neg (show ¬ (false = true) by decide)] at H; exact H
    clear H
    have H := H1
    clear H1
    obtain rfl := Option.some.inj H
    go_enter Try.func43, Try.ntmps43
    go_wp2_with (first | ((with_reducible refine gate_dst (N := 3) rfl ?_); refine box_event ?hg (N := 3) ?hd (cs := #[.int .i64 a0_0, .int .i64 a0_1, .int .i64 a0_2, .int .i64 a0_3, .int .i64 a0_4, .int .i64 a0_5]) (t := 54) ?hr ?_; (case hd => rfl); (case hg => rfl); (case hr => first | (go_simp; done) | (go_simp; rfl)); intro gb377 hg w17 hbox hb; have n0_ := Aside0.mk (below_step z43_0 hb); have n1_ := Aside0.mk (hbox); have n2_ := Aside0.mk ((by rw [hg]; exact (below_size z43_0) : w.heap.size ≤ gb377)); have n3_ := Aside0.mk ((by rw [hg]; exact (below_size z43_0) : w.heap.size ≤ gb377)); clear HB; have HB := n0_; have BK377 := n1_; have GW377 := n2_; have GE377 := n3_; clear n0_ n1_ n2_ n3_; clear hb hbox hg; have hcz18_0 : w17.cell? ⟨gb377, 0, none⟩ = some (.int .i64 a0_0) := (bC_ BK377.out 0).trans rfl; have hcz18_1 : w17.cell? ⟨gb377, 1, none⟩ = some (.int .i64 a0_1) := (bC_ BK377.out 1).trans rfl; have hcz18_2 : w17.cell? ⟨gb377, 2, none⟩ = some (.int .i64 a0_2) := (bC_ BK377.out 2).trans rfl; have hcz18_3 : w17.cell? ⟨gb377, 3, none⟩ = some (.int .i64 a0_3) := (bC_ BK377.out 3).trans rfl; have hcz18_4 : w17.cell? ⟨gb377, 4, none⟩ = some (.int .i64 a0_4) := (bC_ BK377.out 4).trans rfl; have hcz18_5 : w17.cell? ⟨gb377, 5, none⟩ = some (.int .i64 a0_5) := (bC_ BK377.out 5).trans rfl; have hfz18_0 := bF_ BK377.out 0; have hfz18_1 := bF_ BK377.out 1; have hfz18_2 := bF_ BK377.out 2; have hfz18_3 := bF_ BK377.out 3; have hfz18_4 := bF_ BK377.out 4; have hfz18_5 := bF_ BK377.out 5) | ((with_reducible refine gate_callee (f := 61) rfl ?_); refine goesL_ (some 8) rfl rfl Try.func61 (by kernel_rfl) rfl #[.agg #[.int .i64 a0_0, .int .i64 a0_1, .int .i64 a0_2, .int .i64 a0_3, .int .i64 a0_4, .int .i64 a0_5]] rfl z43_2 ?_; (with_reducible refine (impl_IsFact.calls a0_0 a0_1 a0_2 a0_3 a0_4 a0_5 false _ A4.out).mono ?_); rintro e w19 ⟨rfl, hb⟩; refine ⟨_, rfl, ?_⟩; have n0_ := Aside0.mk (blk_below (g := gb377) (o := .cells #[.int .i64 a0_0, .int .i64 a0_1, .int .i64 a0_2, .int .i64 a0_3, .int .i64 a0_4, .int .i64 a0_5] 54 (0, 0)) (pB43_ BK377.out) hb); have n1_ := Aside0.mk (below_step z43_1 hb); clear BK377; clear HB; have BK377 := n0_; have HB := n1_; clear n0_ n1_; (try clear hb); (try clear hb2); (try clear hk); (try clear hi)))
    go_ret
    exact ⟨by first | rfl | (simp [errW_none, errW_some] <;> rfl) | (simp [*, errW_none, errW_some] <;> rfl), by repeat (first | (with_reducible first | exact HB.out | apply bA_ | apply bN_ | apply bD_ | refine bS_ ?_ GE377.out) | exact HB.out)⟩

end Go.Proofs.Ytlcmjdkbeckdnaa.XFnAgreement
