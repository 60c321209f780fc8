/- Written by this session's own program (wip/xprint, which runs over the kit's print): what the functions that the law reaches come to, each proved; and the law's row. Conditions: none. -/
import Derived.Test.YtlcmjdkbeckdnaaXFnExactCondOrx0
import Derived.Test.YtlcmjdkbeckdnaaXFnExactCondOrx1
import Derived.Test.YtlcmjdkbeckdnaaXFnExactCondOrx2
import Derived.Test.YtlcmjdkbeckdnaaXFnExactCondOrx3
namespace Go.Proofs.Ytlcmjdkbeckdnaa.XFnExactCondOr
open Go.RowKit Go.Proofs.YtlcmjdkbeckdnaaW.PrintWords Go.Proofs.YtlcmjdkbeckdnaaW.PrintLast Go.Proofs.YtlcmjdkbeckdnaaW.PrintMore
attribute [local go_sem] max2_int min2_int max_two min_two max_three min_three max_four min_four   -- for this text's walks alone
set_option linter.unusedVariables false
set_option linter.unusedSimpArgs false

/-! ### laws_FnExactCondOr: function 7 -/
def laws_FnExactCondOr.f (k : Nat) (a0_0 : Int) (a0_1 : Int) (a0_2 : Int) (l0_3 : List (S24)) (a1_0 : Int) (a1_1 : Int) (a1_2 : Int) (l1_3 : List (S24)) : Option (Bool) := (laws_szCond.f k a0_0 a0_1 a0_2 l0_3 1048576).bind fun t12 => (if t12 < 0 then some true else ((laws_szCond.f k a1_0 a1_1 a1_2 l1_3 t12).bind fun t20 => (if t20 < 0 then some true else ((laws_toCond.f k a0_0 a0_1 a0_2 l0_3).bind fun (t25, t26, t27, t28) => ((laws_toCond.f k a1_0 a1_1 a1_2 l1_3).bind fun (t30, t31, t32, t33) => ((spec_CondOr.f k t25 t26 t27 t28 t30 t31 t32 t33).bind fun (t35, t36, t37, t38) => ((laws_toCond.f k a0_0 a0_1 a0_2 l0_3).bind fun (t111, t112, t113, t114) => ((laws_toCond.f k a1_0 a1_1 a1_2 l1_3).bind fun (t136, t137, t138, t139) => ((impl_CondOr.f k t111 t112 t113 t114 t136 t137 t138 t139).bind fun (t165, t166, t167, t168) => ((laws_eqCond.f k t165 t166 t167 t168 t35 t36 t37 t38).bind fun t194 => (if t194 = true then ((laws_toCond.f k a0_0 a0_1 a0_2 l0_3).bind fun (t199, t200, t201, t202) => ((laws_eqCond.f k t111 t112 t113 t114 t199 t200 t201 t202).bind fun t208 => (if t208 = true then ((laws_toCond.f k a1_0 a1_1 a1_2 l1_3).bind fun (t213, t214, t215, t216) => ((laws_eqCond.f k t136 t137 t138 t139 t213 t214 t215 t216).bind fun t222 => (if t222 = true then ((laws_markCond.f t111 t112 t113 t114 1).bind fun (t230, t231) => ((laws_markCond.f t136 t137 t138 t139 t230).bind fun (t239, t240) => (if t239 < 0 then some false else ((laws_eqCond.f k t165 t166 t167 t168 t35 t36 t37 t38).bind fun t253 => (if t253 = true then ((laws_markCond.f t165 t166 t167 t168 1).bind fun (t261, t262) => ((laws_heldCond.f k t165 t166 t167 t262 1).bind fun t270 => (if t270 < 0 then some false else (if t261 = t270 then ((laws_toCond.f k a0_0 a0_1 a0_2 l0_3).bind fun (t276, t277, t278, t279) => ((laws_toCond.f k a1_0 a1_1 a1_2 l1_3).bind fun (t281, t282, t283, t284) => ((impl_CondOr.f k t276 t277 t278 t279 t281 t282 t283 t284).bind fun (t286, t287, t288, t289) => ((laws_eqCond.f k t286 t287 t288 t289 t35 t36 t37 t38).bind fun t366 => (if t366 = true then ((laws_heldCond.f k t165 t166 t167 t262 1).bind fun t374 => (if t374 < 0 then some false else (if t261 = t374 then (some true) else some false))) else some false))))) else some false)))) else some false))))) else some false))) else some false))) else some false)))))))))))
set_option maxHeartbeats 8000000 in
set_option maxRecDepth 100000 in
theorem laws_FnExactCondOr.calls (k : Nat) (a0_0 : Int) (a0_1 : Int) (a0_2 : Int) (A0_3 : Option Addr) (c0_3 : Nat) (l0_3 : List (S24)) (a1_0 : Int) (a1_1 : Int) (a1_2 : Int) (A1_3 : Option Addr) (c1_3 : Nat) (l1_3 : List (S24)) (r : Bool) (w : World) (hr0_3 : Kd.C k24 w A0_3 l0_3.length l0_3) (hc0_3 : l0_3.length ≤ c0_3) (hr1_3 : Kd.C k24 w A1_3 l1_3.length l1_3) (hc1_3 : l1_3.length ≤ c1_3) (h : laws_FnExactCondOr.f k a0_0 a0_1 a0_2 l0_3 a1_0 a1_1 a1_2 l1_3 = some r) (hr_ : Aside0 (r = true)) :
    Calls Try.prog 7 #[.agg #[.int .i64 a0_0, .int .i64 a0_1, .int .i64 a0_2, .slice A0_3 l0_3.length c0_3], .agg #[.int .i64 a1_0, .int .i64 a1_1, .int .i64 a1_2, .slice A1_3 l1_3.length c1_3]] w fun e w' => e = .returned (.bool r) ∧ Below w.heap.size w w' := by
  obtain rfl := hr_.out
  have hu24 := Try.underlying24
  have hu29 := Try.underlying29
  have HR0_3 := Aside0.mk hr0_3
  have HC0_3 := Aside0.mk hc0_3
  clear hr0_3 hc0_3
  have HR1_3 := Aside0.mk hr1_3
  have HC1_3 := Aside0.mk hc1_3
  clear hr1_3 hc1_3
  have HB := Aside0.mk (Below.refl w.heap.size w)
  have HS : Aside0 (0 ≤ w.heap.size) := ⟨Nat.zero_le _⟩
  unfold laws_FnExactCondOr.f at h
  obtain ⟨t12, E11, h⟩ := Option.bind_eq_some_iff.mp h
  (try dsimp only at E11 h)
  replace E11 := Aside0.mk E11
  by_cases c18 : t12 < 0
  · have cb_c18 : decide (t12 < 0) = true := decide_eq_true c18
    clear h
    go_enter Try.func7, Try.ntmps7
    go_wp2_with (first | ((with_reducible refine gate_dst (N := 2) rfl ?_); refine box_event ?hg (N := 2) ?hd (cs := #[.int .i64 a0_0, .int .i64 a0_1, .int .i64 a0_2, .slice A0_3 l0_3.length c0_3]) (t := 24) ?hr ?_; (case hd => rfl); (case hg => rfl); (case hr => first | (go_simp; done) | (go_simp; rfl)); intro g1 hg w2 hbox hb; have HZ3 : Aside0 (0 ≤ g1 ∧ w.heap.size ≤ g1) := ⟨by rw [hg]; exact ⟨HS.out, HB.out.size⟩⟩; replace HS := Go.Proofs.YtlcmjdkbeckdnaaTree.Z_b HS hb; replace HB := Go.Proofs.YtlcmjdkbeckdnaaTree.H_b HB hb; have HKg1 := Aside0.mk hbox; replace HS : Aside0 (g1 + 1 ≤ w2.heap.size) := ⟨blk_lt hbox⟩; clear hg hbox hb) | ((with_reducible refine gate_dst (N := 3) rfl ?_); refine box_event ?hg (N := 3) ?hd (cs := #[.int .i64 a1_0, .int .i64 a1_1, .int .i64 a1_2, .slice A1_3 l1_3.length c1_3]) (t := 24) ?hr ?_; (case hd => rfl); (case hg => rfl); (case hr => first | (go_simp; done) | (go_simp; rfl)); intro g4 hg w5 hbox hb; have HZ6 : Aside0 (g1 + 1 ≤ g4 ∧ w.heap.size ≤ g4) := ⟨by rw [hg]; exact ⟨HS.out, HB.out.size⟩⟩; replace HKg1 := Go.Proofs.YtlcmjdkbeckdnaaTree.B_b HKg1 hb; replace HS := Go.Proofs.YtlcmjdkbeckdnaaTree.Z_b HS hb; replace HB := Go.Proofs.YtlcmjdkbeckdnaaTree.H_b HB hb; have HKg4 := Aside0.mk hbox; replace HS : Aside0 (g4 + 1 ≤ w5.heap.size) := ⟨blk_lt hbox⟩; clear hg hbox hb; have hc7 : w5.cell? ⟨g1, 0, none⟩ = some (.int .i64 a0_0) := (blk_cell HKg1.out 0).trans rfl; have hc8 : w5.cell? ⟨g1, 1, none⟩ = some (.int .i64 a0_1) := (blk_cell HKg1.out 1).trans rfl; have hc9 : w5.cell? ⟨g1, 2, none⟩ = some (.int .i64 a0_2) := (blk_cell HKg1.out 2).trans rfl; have hc10 : w5.cell? ⟨g1, 3, none⟩ = some (.slice A0_3 l0_3.length c0_3) := (blk_cell HKg1.out 3).trans rfl) | ((with_reducible refine gate_callee (f := 12) rfl ?_); refine goesL_ (some 16) rfl rfl Try.func12 (by kernel_rfl) rfl #[.agg #[.int .i64 a0_0, .int .i64 a0_1, .int .i64 a0_2, .slice A0_3 l0_3.length c0_3], .int .i64 1048576] rfl (by (try simp only [List.map_toArray, List.map_cons, List.map_nil]); first | done | rfl) ?_; (with_reducible refine (laws_szCond.calls k a0_0 a0_1 a0_2 _ _ l0_3 1048576 t12 _ ?side1 ?side2 E11.out).mono ?_); (case side1 => exact Kd.C_below HR0_3.out HB.out); (case side2 => exact HC0_3.out); rintro e w13 ⟨rfl, hb⟩; refine ⟨_, rfl, ?_⟩; (try clear hc7 hc8 hc9 hc10); replace HKg1 := Go.Proofs.YtlcmjdkbeckdnaaTree.B_b HKg1 hb; replace HKg4 := Go.Proofs.YtlcmjdkbeckdnaaTree.B_b HKg4 hb; replace HS := Go.Proofs.YtlcmjdkbeckdnaaTree.Z_b HS hb; replace HB := Go.Proofs.YtlcmjdkbeckdnaaTree.H_b HB hb; clear hb; have hc14 : w13.cell? ⟨g4, 0, none⟩ = some (.int .i64 a1_0) := (blk_cell HKg4.out 0).trans rfl; have hc15 : w13.cell? ⟨g4, 1, none⟩ = some (.int .i64 a1_1) := (blk_cell HKg4.out 1).trans rfl; have hc16 : w13.cell? ⟨g4, 2, none⟩ = some (.int .i64 a1_2) := (blk_cell HKg4.out 2).trans rfl; have hc17 : w13.cell? ⟨g4, 3, none⟩ = some (.slice A1_3 l1_3.length c1_3) := (blk_cell HKg4.out 3).trans rfl))
    go_ret
    exact ⟨rfl, HB.out⟩
  rw [if_neg c18] at h
  have cb_c18 : decide (t12 < 0) = false := decide_eq_false c18
  clear c18
  obtain ⟨t20, E19, h⟩ := Option.bind_eq_some_iff.mp h
  (try dsimp only at E19 h)
  replace E19 := Aside0.mk E19
  by_cases c22 : t20 < 0
  · have cb_c22 : decide (t20 < 0) = true := decide_eq_true c22
    clear h
    go_enter Try.func7, Try.ntmps7
    go_wp2_with (first | ((with_reducible refine gate_dst (N := 2) rfl ?_); refine box_event ?hg (N := 2) ?hd (cs := #[.int .i64 a0_0, .int .i64 a0_1, .int .i64 a0_2, .slice A0_3 l0_3.length c0_3]) (t := 24) ?hr ?_; (case hd => rfl); (case hg => rfl); (case hr => first | (go_simp; done) | (go_simp; rfl)); intro g1 hg w2 hbox hb; have HZ3 : Aside0 (0 ≤ g1 ∧ w.heap.size ≤ g1) := ⟨by rw [hg]; exact ⟨HS.out, HB.out.size⟩⟩; replace HS := Go.Proofs.YtlcmjdkbeckdnaaTree.Z_b HS hb; replace HB := Go.Proofs.YtlcmjdkbeckdnaaTree.H_b HB hb; have HKg1 := Aside0.mk hbox; replace HS : Aside0 (g1 + 1 ≤ w2.heap.size) := ⟨blk_lt hbox⟩; clear hg hbox hb) | ((with_reducible refine gate_dst (N := 3) rfl ?_); refine box_event ?hg (N := 3) ?hd (cs := #[.int .i64 a1_0, .int .i64 a1_1, .int .i64 a1_2, .slice A1_3 l1_3.length c1_3]) (t := 24) ?hr ?_; (case hd => rfl); (case hg => rfl); (case hr => first | (go_simp; done) | (go_simp; rfl)); intro g4 hg w5 hbox hb; have HZ6 : Aside0 (g1 + 1 ≤ g4 ∧ w.heap.size ≤ g4) := ⟨by rw [hg]; exact ⟨HS.out, HB.out.size⟩⟩; replace HKg1 := Go.Proofs.YtlcmjdkbeckdnaaTree.B_b HKg1 hb; replace HS := Go.Proofs.YtlcmjdkbeckdnaaTree.Z_b HS hb; replace HB := Go.Proofs.YtlcmjdkbeckdnaaTree.H_b HB hb; have HKg4 := Aside0.mk hbox; replace HS : Aside0 (g4 + 1 ≤ w5.heap.size) := ⟨blk_lt hbox⟩; clear hg hbox hb; have hc7 : w5.cell? ⟨g1, 0, none⟩ = some (.int .i64 a0_0) := (blk_cell HKg1.out 0).trans rfl; have hc8 : w5.cell? ⟨g1, 1, none⟩ = some (.int .i64 a0_1) := (blk_cell HKg1.out 1).trans rfl; have hc9 : w5.cell? ⟨g1, 2, none⟩ = some (.int .i64 a0_2) := (blk_cell HKg1.out 2).trans rfl; have hc10 : w5.cell? ⟨g1, 3, none⟩ = some (.slice A0_3 l0_3.length c0_3) := (blk_cell HKg1.out 3).trans rfl) | ((with_reducible refine gate_callee (f := 12) rfl ?_); refine goesL_ (some 16) rfl rfl Try.func12 (by kernel_rfl) rfl #[.agg #[.int .i64 a0_0, .int .i64 a0_1, .int .i64 a0_2, .slice A0_3 l0_3.length c0_3], .int .i64 1048576] rfl (by (try simp only [List.map_toArray, List.map_cons, List.map_nil]); first | done | rfl) ?_; (with_reducible refine (laws_szCond.calls k a0_0 a0_1 a0_2 _ _ l0_3 1048576 t12 _ ?side1 ?side2 E11.out).mono ?_); (case side1 => exact Kd.C_below HR0_3.out HB.out); (case side2 => exact HC0_3.out); rintro e w13 ⟨rfl, hb⟩; refine ⟨_, rfl, ?_⟩; (try clear hc7 hc8 hc9 hc10); replace HKg1 := Go.Proofs.YtlcmjdkbeckdnaaTree.B_b HKg1 hb; replace HKg4 := Go.Proofs.YtlcmjdkbeckdnaaTree.B_b HKg4 hb; replace HS := Go.Proofs.YtlcmjdkbeckdnaaTree.Z_b HS hb; replace HB := Go.Proofs.YtlcmjdkbeckdnaaTree.H_b HB hb; clear hb; have hc14 : w13.cell? ⟨g4, 0, none⟩ = some (.int .i64 a1_0) := (blk_cell HKg4.out 0).trans rfl; have hc15 : w13.cell? ⟨g4, 1, none⟩ = some (.int .i64 a1_1) := (blk_cell HKg4.out 1).trans rfl; have hc16 : w13.cell? ⟨g4, 2, none⟩ = some (.int .i64 a1_2) := (blk_cell HKg4.out 2).trans rfl; have hc17 : w13.cell? ⟨g4, 3, none⟩ = some (.slice A1_3 l1_3.length c1_3) := (blk_cell HKg4.out 3).trans rfl) | ((with_reducible refine gate_callee (f := 12) rfl ?_); refine goesL_ (some 21) rfl rfl Try.func12 (by kernel_rfl) rfl #[.agg #[.int .i64 a1_0, .int .i64 a1_1, .int .i64 a1_2, .slice A1_3 l1_3.length c1_3], .int .i64 t12] rfl (by (try simp only [List.map_toArray, List.map_cons, List.map_nil]); first | done | rfl) ?_; (with_reducible refine (laws_szCond.calls k a1_0 a1_1 a1_2 _ _ l1_3 t12 t20 _ ?side1 ?side2 E19.out).mono ?_); (case side1 => exact Kd.C_below HR1_3.out HB.out); (case side2 => exact HC1_3.out); rintro e w21 ⟨rfl, hb⟩; refine ⟨_, rfl, ?_⟩; (try clear hc14 hc15 hc16 hc17); replace HKg1 := Go.Proofs.YtlcmjdkbeckdnaaTree.B_b HKg1 hb; replace HKg4 := Go.Proofs.YtlcmjdkbeckdnaaTree.B_b HKg4 hb; replace HS := Go.Proofs.YtlcmjdkbeckdnaaTree.Z_b HS hb; replace HB := Go.Proofs.YtlcmjdkbeckdnaaTree.H_b HB hb; clear hb))
    go_ret
    exact ⟨rfl, HB.out⟩
  rw [if_neg c22] at h
  have cb_c22 : decide (t20 < 0) = false := decide_eq_false c22
  clear c22
  obtain ⟨⟨t25, t26, t27, t28⟩, E24, h⟩ := Option.bind_eq_some_iff.mp h
  (try dsimp only at E24 h)
  replace E24 := Aside0.mk E24
  obtain ⟨⟨t30, t31, t32, t33⟩, E29, h⟩ := Option.bind_eq_some_iff.mp h
  (try dsimp only at E29 h)
  replace E29 := Aside0.mk E29
  obtain ⟨⟨t35, t36, t37, t38⟩, E34, h⟩ := Option.bind_eq_some_iff.mp h
  (try dsimp only at E34 h)
  replace E34 := Aside0.mk E34
  obtain ⟨⟨t111, t112, t113, t114⟩, E110, h⟩ := Option.bind_eq_some_iff.mp h
  (try dsimp only at E110 h)
  replace E110 := Aside0.mk E110
  obtain ⟨⟨t136, t137, t138, t139⟩, E135, h⟩ := Option.bind_eq_some_iff.mp h
  (try dsimp only at E135 h)
  replace E135 := Aside0.mk E135
  obtain ⟨⟨t165, t166, t167, t168⟩, E164, h⟩ := Option.bind_eq_some_iff.mp h
  (try dsimp only at E164 h)
  replace E164 := Aside0.mk E164
  obtain ⟨t194, E193, h⟩ := Option.bind_eq_some_iff.mp h
  (try dsimp only at E193 h)
  replace E193 := Aside0.mk E193
  by_cases c196 : t194 = true
  rotate_left
  · rw [if_neg c196] at h
    exact absurd h (by simp)
  rw [if_pos c196] at h
  subst c196
  obtain ⟨⟨t199, t200, t201, t202⟩, E198, h⟩ := Option.bind_eq_some_iff.mp h
  (try dsimp only at E198 h)
  replace E198 := Aside0.mk E198
  obtain ⟨t208, E207, h⟩ := Option.bind_eq_some_iff.mp h
  (try dsimp only at E207 h)
  replace E207 := Aside0.mk E207
  by_cases c210 : t208 = true
  rotate_left
  · rw [if_neg c210] at h
    exact absurd h (by simp)
  rw [if_pos c210] at h
  subst c210
  obtain ⟨⟨t213, t214, t215, t216⟩, E212, h⟩ := Option.bind_eq_some_iff.mp h
  (try dsimp only at E212 h)
  replace E212 := Aside0.mk E212
  obtain ⟨t222, E221, h⟩ := Option.bind_eq_some_iff.mp h
  (try dsimp only at E221 h)
  replace E221 := Aside0.mk E221
  by_cases c224 : t222 = true
  rotate_left
  · rw [if_neg c224] at h
    exact absurd h (by simp)
  rw [if_pos c224] at h
  subst c224
  obtain ⟨⟨t230, t231⟩, E229, h⟩ := Option.bind_eq_some_iff.mp h
  (try dsimp only at E229 h)
  replace E229 := Aside0.mk E229
  obtain ⟨⟨t239, t240⟩, E238, h⟩ := Option.bind_eq_some_iff.mp h
  (try dsimp only at E238 h)
  replace E238 := Aside0.mk E238
  by_cases c251 : t239 < 0
  · rw [if_pos c251] at h
    exact absurd h (by simp)
  rw [if_neg c251] at h
  have cb_c251 : decide (t239 < 0) = false := decide_eq_false c251
  clear c251
  obtain ⟨t253, E252, h⟩ := Option.bind_eq_some_iff.mp h
  (try dsimp only at E252 h)
  replace E252 := Aside0.mk E252
  by_cases c255 : t253 = true
  rotate_left
  · rw [if_neg c255] at h
    exact absurd h (by simp)
  rw [if_pos c255] at h
  subst c255
  obtain ⟨⟨t261, t262⟩, E260, h⟩ := Option.bind_eq_some_iff.mp h
  (try dsimp only at E260 h)
  replace E260 := Aside0.mk E260
  obtain ⟨t270, E269, h⟩ := Option.bind_eq_some_iff.mp h
  (try dsimp only at E269 h)
  replace E269 := Aside0.mk E269
  by_cases c272 : t270 < 0
  · rw [if_pos c272] at h
    exact absurd h (by simp)
  rw [if_neg c272] at h
  have cb_c272 : decide (t270 < 0) = false := decide_eq_false c272
  clear c272
  by_cases c273 : t261 = t270
  rotate_left
  · rw [if_neg c273] at h
    exact absurd h (by simp)
  rw [if_pos c273] at h
  subst c273
  obtain ⟨⟨t276, t277, t278, t279⟩, E275, h⟩ := Option.bind_eq_some_iff.mp h
  (try dsimp only at E275 h)
  replace E275 := Aside0.mk E275
  obtain ⟨⟨t281, t282, t283, t284⟩, E280, h⟩ := Option.bind_eq_some_iff.mp h
  (try dsimp only at E280 h)
  replace E280 := Aside0.mk E280
  obtain ⟨⟨t286, t287, t288, t289⟩, E285, h⟩ := Option.bind_eq_some_iff.mp h
  (try dsimp only at E285 h)
  replace E285 := Aside0.mk E285
  obtain ⟨t366, E365, h⟩ := Option.bind_eq_some_iff.mp h
  (try dsimp only at E365 h)
  replace E365 := Aside0.mk E365
  by_cases c368 : t366 = true
  rotate_left
  · rw [if_neg c368] at h
    exact absurd h (by simp)
  rw [if_pos c368] at h
  subst c368
  obtain ⟨t374, E373, h⟩ := Option.bind_eq_some_iff.mp h
  (try dsimp only at E373 h)
  replace E373 := Aside0.mk E373
  by_cases c376 : t374 < 0
  · rw [if_pos c376] at h
    exact absurd h (by simp)
  rw [if_neg c376] at h
  have cb_c376 : decide (t374 < 0) = false := decide_eq_false c376
  clear c376
  by_cases c377 : t261 = t374
  rotate_left
  · rw [if_neg c377] at h
    exact absurd h (by simp)
  rw [if_pos c377] at h
  subst c377
  clear h
  go_enter Try.func7, Try.ntmps7
  go_wp2_with (first | ((with_reducible refine gate_dst (N := 2) rfl ?_); refine box_event ?hg (N := 2) ?hd (cs := #[.int .i64 a0_0, .int .i64 a0_1, .int .i64 a0_2, .slice A0_3 l0_3.length c0_3]) (t := 24) ?hr ?_; (case hd => rfl); (case hg => rfl); (case hr => first | (go_simp; done) | (go_simp; rfl)); intro g1 hg w2 hbox hb; have HZ3 : Aside0 (0 ≤ g1 ∧ w.heap.size ≤ g1) := ⟨by rw [hg]; exact ⟨HS.out, HB.out.size⟩⟩; replace HS := Go.Proofs.YtlcmjdkbeckdnaaTree.Z_b HS hb; replace HB := Go.Proofs.YtlcmjdkbeckdnaaTree.H_b HB hb; have HKg1 := Aside0.mk hbox; replace HS : Aside0 (g1 + 1 ≤ w2.heap.size) := ⟨blk_lt hbox⟩; clear hg hbox hb) | ((with_reducible refine gate_dst (N := 3) rfl ?_); refine box_event ?hg (N := 3) ?hd (cs := #[.int .i64 a1_0, .int .i64 a1_1, .int .i64 a1_2, .slice A1_3 l1_3.length c1_3]) (t := 24) ?hr ?_; (case hd => rfl); (case hg => rfl); (case hr => first | (go_simp; done) | (go_simp; rfl)); intro g4 hg w5 hbox hb; have HZ6 : Aside0 (g1 + 1 ≤ g4 ∧ w.heap.size ≤ g4) := ⟨by rw [hg]; exact ⟨HS.out, HB.out.size⟩⟩; replace HKg1 := Go.Proofs.YtlcmjdkbeckdnaaTree.B_b HKg1 hb; replace HS := Go.Proofs.YtlcmjdkbeckdnaaTree.Z_b HS hb; replace HB := Go.Proofs.YtlcmjdkbeckdnaaTree.H_b HB hb; have HKg4 := Aside0.mk hbox; replace HS : Aside0 (g4 + 1 ≤ w5.heap.size) := ⟨blk_lt hbox⟩; clear hg hbox hb; have hc7 : w5.cell? ⟨g1, 0, none⟩ = some (.int .i64 a0_0) := (blk_cell HKg1.out 0).trans rfl; have hc8 : w5.cell? ⟨g1, 1, none⟩ = some (.int .i64 a0_1) := (blk_cell HKg1.out 1).trans rfl; have hc9 : w5.cell? ⟨g1, 2, none⟩ = some (.int .i64 a0_2) := (blk_cell HKg1.out 2).trans rfl; have hc10 : w5.cell? ⟨g1, 3, none⟩ = some (.slice A0_3 l0_3.length c0_3) := (blk_cell HKg1.out 3).trans rfl) | ((with_reducible refine gate_callee (f := 12) rfl ?_); refine goesL_ (some 16) rfl rfl Try.func12 (by kernel_rfl) rfl #[.agg #[.int .i64 a0_0, .int .i64 a0_1, .int .i64 a0_2, .slice A0_3 l0_3.length c0_3], .int .i64 1048576] rfl (by (try simp only [List.map_toArray, List.map_cons, List.map_nil]); first | done | rfl) ?_; (with_reducible refine (laws_szCond.calls k a0_0 a0_1 a0_2 _ _ l0_3 1048576 t12 _ ?side1 ?side2 E11.out).mono ?_); (case side1 => exact Kd.C_below HR0_3.out HB.out); (case side2 => exact HC0_3.out); rintro e w13 ⟨rfl, hb⟩; refine ⟨_, rfl, ?_⟩; (try clear hc7 hc8 hc9 hc10); replace HKg1 := Go.Proofs.YtlcmjdkbeckdnaaTree.B_b HKg1 hb; replace HKg4 := Go.Proofs.YtlcmjdkbeckdnaaTree.B_b HKg4 hb; replace HS := Go.Proofs.YtlcmjdkbeckdnaaTree.Z_b HS hb; replace HB := Go.Proofs.YtlcmjdkbeckdnaaTree.H_b HB hb; clear hb; have hc14 : w13.cell? ⟨g4, 0, none⟩ = some (.int .i64 a1_0) := (blk_cell HKg4.out 0).trans rfl; have hc15 : w13.cell? ⟨g4, 1, none⟩ = some (.int .i64 a1_1) := (blk_cell HKg4.out 1).trans rfl; have hc16 : w13.cell? ⟨g4, 2, none⟩ = some (.int .i64 a1_2) := (blk_cell HKg4.out 2).trans rfl; have hc17 : w13.cell? ⟨g4, 3, none⟩ = some (.slice A1_3 l1_3.length c1_3) := (blk_cell HKg4.out 3).trans rfl) | ((with_reducible refine gate_callee (f := 12) rfl ?_); refine goesL_ (some 21) rfl rfl Try.func12 (by kernel_rfl) rfl #[.agg #[.int .i64 a1_0, .int .i64 a1_1, .int .i64 a1_2, .slice A1_3 l1_3.length c1_3], .int .i64 t12] rfl (by (try simp only [List.map_toArray, List.map_cons, List.map_nil]); first | done | rfl) ?_; (with_reducible refine (laws_szCond.calls k a1_0 a1_1 a1_2 _ _ l1_3 t12 t20 _ ?side1 ?side2 E19.out).mono ?_); (case side1 => exact Kd.C_below HR1_3.out HB.out); (case side2 => exact HC1_3.out); rintro e w21 ⟨rfl, hb⟩; refine ⟨_, rfl, ?_⟩; (try clear hc14 hc15 hc16 hc17); replace HKg1 := Go.Proofs.YtlcmjdkbeckdnaaTree.B_b HKg1 hb; replace HKg4 := Go.Proofs.YtlcmjdkbeckdnaaTree.B_b HKg4 hb; replace HS := Go.Proofs.YtlcmjdkbeckdnaaTree.Z_b HS hb; replace HB := Go.Proofs.YtlcmjdkbeckdnaaTree.H_b HB hb; clear hb))
  have hb := below_drew (Below.refl w21.heap.size w21)
  replace HKg1 := Go.Proofs.YtlcmjdkbeckdnaaTree.B_b HKg1 hb
  replace HKg4 := Go.Proofs.YtlcmjdkbeckdnaaTree.B_b HKg4 hb
  replace HS := Go.Proofs.YtlcmjdkbeckdnaaTree.Z_b HS hb
  replace HB := Go.Proofs.YtlcmjdkbeckdnaaTree.H_b HB hb
  clear hb
  refine start_ (n := 7) (S := fun w' => w'.cell? ⟨g1, 0, none⟩ = some (.int .i64 a0_0) ∧ w'.cell? ⟨g1, 1, none⟩ = some (.int .i64 a0_1) ∧ w'.cell? ⟨g1, 2, none⟩ = some (.int .i64 a0_2) ∧ w'.cell? ⟨g1, 3, none⟩ = some (.slice A0_3 l0_3.length c0_3) ∧ w'.cell? ⟨g4, 0, none⟩ = some (.int .i64 a1_0) ∧ w'.cell? ⟨g4, 1, none⟩ = some (.int .i64 a1_1) ∧ w'.cell? ⟨g4, 2, none⟩ = some (.int .i64 a1_2) ∧ w'.cell? ⟨g4, 3, none⟩ = some (.slice A1_3 l1_3.length c1_3)) (ds := []) #[false, false, false, false, false, false, false] (by kernel_rfl) rfl rfl ⟨(blk_cell HKg1.out 0).trans rfl, (blk_cell HKg1.out 1).trans rfl, (blk_cell HKg1.out 2).trans rfl, (blk_cell HKg1.out 3).trans rfl, (blk_cell HKg4.out 0).trans rfl, (blk_cell HKg4.out 1).trans rfl, (blk_cell HKg4.out 2).trans rfl, (blk_cell HKg4.out 3).trans rfl⟩ (fun hHeld => ?_)
  generalize w21.drew = w23 at HKg1 HKg4 HB HS hHeld ⊢
  refine take_ (i := 0) (N := some 24) (v := ?_) (a' := ?_) #[true, false, false, false, false, false, false] rfl rfl (by kernel_rfl) (fun _ _ _ h => h) (Or.inl ⟨by rfl, ?_⟩) hHeld ?_ ?_
  rotate_left
  · rintro w' ⟨s0, s1, s2, s3, s4, s5, s6, s7⟩
    go_simp
    with_reducible rfl
  rotate_left
  · simp only [Act.put, List.setIfInBounds_toArray, List.set_cons_zero, List.set_cons_succ, i64_w, i32_w]
    rfl
  refine take_ (i := 2) (N := some 26) (v := ?_) (a' := ?_) #[true, false, true, false, false, false, false] rfl rfl (by kernel_rfl) (fun _ _ _ h => h) (Or.inl ⟨by rfl, ?_⟩) hHeld ?_ ?_
  rotate_left
  · rintro w' ⟨s0, s1, s2, s3, s4, s5, s6, s7⟩
    go_simp
    with_reducible rfl
  rotate_left
  · simp only [Act.put, List.setIfInBounds_toArray, List.set_cons_zero, List.set_cons_succ, i64_w, i32_w]
    rfl
  refine join_ (σ := Value × Value × Value × Nat × Nat × Nat × Nat) 1 #[true, true, true, true, true, true, false] (fun s_ => [(25, .agg #[.int .i64 t25, .int .i64 t26, .int .i64 t27, s_.1]), (27, .agg #[.int .i64 t30, .int .i64 t31, .int .i64 t32, s_.2.1]), (28, .agg #[.int .i64 t35, .int .i64 t36, .int .i64 t37, s_.2.2.1]), (6, .pointer (some ⟨s_.2.2.2.1, 0, none⟩))]) (fun s_ w' => (w'.cell? ⟨g1, 0, none⟩ = some (.int .i64 a0_0) ∧ w'.cell? ⟨g1, 1, none⟩ = some (.int .i64 a0_1) ∧ w'.cell? ⟨g1, 2, none⟩ = some (.int .i64 a0_2) ∧ w'.cell? ⟨g1, 3, none⟩ = some (.slice A0_3 l0_3.length c0_3) ∧ w'.cell? ⟨g4, 0, none⟩ = some (.int .i64 a1_0) ∧ w'.cell? ⟨g4, 1, none⟩ = some (.int .i64 a1_1) ∧ w'.cell? ⟨g4, 2, none⟩ = some (.int .i64 a1_2) ∧ w'.cell? ⟨g4, 3, none⟩ = some (.slice A1_3 l1_3.length c1_3)) ∧ (Kd.S k29 29 w' w.heap.size (fun x => s_.2.2.2.2.1 ≤ x ∧ x < s_.2.2.2.2.2.1) (s_.2.2.1) t38) ∧ (w'.heap[g1]? = some (.cells #[.int .i64 a0_0, .int .i64 a0_1, .int .i64 a0_2, .slice A0_3 l0_3.length c0_3] 24 (0, 0))) ∧ (w'.heap[g4]? = some (.cells #[.int .i64 a1_0, .int .i64 a1_1, .int .i64 a1_2, .slice A1_3 l1_3.length c1_3] 24 (0, 0))) ∧ (w'.heap[s_.2.2.2.1]? = some (.cells #[.int .i64 0, .int .i64 0, .int .i64 0, .slice none 0 0] 29 (0, 0))) ∧ ((g4 + 1 ≤ s_.2.2.2.2.1 ∧ s_.2.2.2.2.1 ≤ s_.2.2.2.2.2.1 ∧ s_.2.2.2.2.2.1 ≤ s_.2.2.2.2.2.2 ∧ g4 + 1 ≤ s_.2.2.2.1 ∧ s_.2.2.2.1 + 1 ≤ s_.2.2.2.2.2.2 ∧ (s_.2.2.2.1 + 1 ≤ s_.2.2.2.2.1 ∨ s_.2.2.2.2.2.1 ≤ s_.2.2.2.1) ∧ w.heap.size ≤ s_.2.2.2.1)) ∧ (s_.2.2.2.2.2.2 ≤ w'.heap.size) ∧ (Below w.heap.size w w')) ?_ ?_
  rotate_left
  · intro hCont
    refine two_ (i := 1) (j := 5) (Ni := some 25) (Nj := some 6) #[true, true, true, false, false, false, false] #[true, false, true, false, false, true, false] rfl rfl rfl rfl (by kernel_rfl) (by decide) (by decide) (fun K hK => ?_) (fun K hK => ?_)
    · skip
      refine goes_ Try.func14 (by kernel_rfl) rfl #[.agg #[.int .i64 a0_0, .int .i64 a0_1, .int .i64 a0_2, .slice A0_3 l0_3.length c0_3]] (by rfl) rfl rfl (by (try simp only [List.map_toArray, List.map_cons, List.map_nil]); first | done | rfl) ?_
      with_reducible refine (laws_toCond.calls k a0_0 a0_1 a0_2 _ _ l0_3 t25 t26 t27 t28 _ ?side1 ?side2 E24.out).mono ?_
      (case side1 => exact Kd.C_below HR0_3.out HB.out)
      (case side2 => exact HC0_3.out)
      rintro e w39 ⟨v_0, rfl, ho0, hb⟩
      obtain ⟨Aq40, cq40, rfl⟩ := Kd.S_slice ho0
      refine ⟨_, rfl, ?_⟩
      obtain ⟨Lq40, Uq40, HZ41, HZ42, HOq40⟩ := Go.Proofs.YtlcmjdkbeckdnaaTree.S_made ho0 HS.out hb HB.out.size
      replace HKg1 := Go.Proofs.YtlcmjdkbeckdnaaTree.B_b HKg1 hb
      replace HKg4 := Go.Proofs.YtlcmjdkbeckdnaaTree.B_b HKg4 hb
      replace HS := Go.Proofs.YtlcmjdkbeckdnaaTree.Z_b HS hb
      replace HB := Go.Proofs.YtlcmjdkbeckdnaaTree.H_b HB hb
      replace HS := HZ42
      clear ho0
      clear hb
      refine hK.out _ _ ⟨(blk_cell HKg1.out 0).trans rfl, (blk_cell HKg1.out 1).trans rfl, (blk_cell HKg1.out 2).trans rfl, (blk_cell HKg1.out 3).trans rfl, (blk_cell HKg4.out 0).trans rfl, (blk_cell HKg4.out 1).trans rfl, (blk_cell HKg4.out 2).trans rfl, (blk_cell HKg4.out 3).trans rfl⟩ (fun hHeld => ?_)
      clear hK K
      refine norm_ (a' := ?_) ?_ ?_
      rotate_left
      · show Act.put _ (some 25) _ = _
        simp only [Act.put, List.setIfInBounds_toArray, List.set_cons_zero, List.set_cons_succ, i64_w, i32_w]
        rfl
      refine two_ (i := 3) (j := 5) (Ni := some 27) (Nj := some 6) #[true, true, true, true, false, false, false] #[true, true, true, false, false, true, false] rfl rfl rfl rfl (by kernel_rfl) (by decide) (by decide) (fun K hK => ?_) (fun K hK => ?_)
      · skip
        refine goes_ Try.func14 (by kernel_rfl) rfl #[.agg #[.int .i64 a1_0, .int .i64 a1_1, .int .i64 a1_2, .slice A1_3 l1_3.length c1_3]] (by rfl) rfl rfl (by (try simp only [List.map_toArray, List.map_cons, List.map_nil]); first | done | rfl) ?_
        with_reducible refine (laws_toCond.calls k a1_0 a1_1 a1_2 _ _ l1_3 t30 t31 t32 t33 _ ?side1 ?side2 E29.out).mono ?_
        (case side1 => exact Kd.C_below HR1_3.out HB.out)
        (case side2 => exact HC1_3.out)
        rintro e w43 ⟨v_0, rfl, ho0, hb⟩
        obtain ⟨Aq44, cq44, rfl⟩ := Kd.S_slice ho0
        refine ⟨_, rfl, ?_⟩
        obtain ⟨Lq44, Uq44, HZ45, HZ46, HOq44⟩ := Go.Proofs.YtlcmjdkbeckdnaaTree.S_made ho0 HS.out hb HB.out.size
        replace HOq40 := Go.Proofs.YtlcmjdkbeckdnaaTree.S_b HOq40 hb
        replace HKg1 := Go.Proofs.YtlcmjdkbeckdnaaTree.B_b HKg1 hb
        replace HKg4 := Go.Proofs.YtlcmjdkbeckdnaaTree.B_b HKg4 hb
        replace HS := Go.Proofs.YtlcmjdkbeckdnaaTree.Z_b HS hb
        replace HB := Go.Proofs.YtlcmjdkbeckdnaaTree.H_b HB hb
        replace HS := HZ46
        clear ho0
        clear hb
        refine hK.out _ _ ⟨(blk_cell HKg1.out 0).trans rfl, (blk_cell HKg1.out 1).trans rfl, (blk_cell HKg1.out 2).trans rfl, (blk_cell HKg1.out 3).trans rfl, (blk_cell HKg4.out 0).trans rfl, (blk_cell HKg4.out 1).trans rfl, (blk_cell HKg4.out 2).trans rfl, (blk_cell HKg4.out 3).trans rfl⟩ (fun hHeld => ?_)
        clear hK K
        refine norm_ (a' := ?_) ?_ ?_
        rotate_left
        · show Act.put _ (some 27) _ = _
          simp only [Act.put, List.setIfInBounds_toArray, List.set_cons_zero, List.set_cons_succ, i64_w, i32_w]
          rfl
        refine two_ (i := 4) (j := 5) (Ni := some 28) (Nj := some 6) #[true, true, true, true, true, false, false] #[true, true, true, true, false, true, false] rfl rfl rfl rfl (by kernel_rfl) (by decide) (by decide) (fun K hK => ?_) (fun K hK => ?_)
        · skip
          refine goes_ Try.func25 (by kernel_rfl) rfl #[.agg #[.int .i64 t25, .int .i64 t26, .int .i64 t27, .slice Aq40 t28.length cq40], .agg #[.int .i64 t30, .int .i64 t31, .int .i64 t32, .slice Aq44 t33.length cq44]] (by rfl) rfl rfl (by (try simp only [List.map_toArray, List.map_cons, List.map_nil]); first | done | rfl) ?_
          with_reducible refine (spec_CondOr.calls k t25 t26 t27 _ _ t28 t30 t31 t32 _ _ t33 t35 t36 t37 t38 _ ?side1 ?side2 ?side3 ?side4 E34.out).mono ?_
          (case side1 => exact (Kd.S_reads' HOq40.out).2.2)
          (case side2 => exact (Kd.S_reads' HOq40.out).2.1)
          (case side3 => exact (Kd.S_reads' HOq44.out).2.2)
          (case side4 => exact (Kd.S_reads' HOq44.out).2.1)
          rintro e w47 ⟨v_0, rfl, ho0, hb⟩
          obtain ⟨Aq48, cq48, rfl⟩ := Kd.S_slice ho0
          refine ⟨_, rfl, ?_⟩
          obtain ⟨Lq48, Uq48, HZ49, HZ50, HOq48⟩ := Go.Proofs.YtlcmjdkbeckdnaaTree.S_made ho0 HS.out hb HB.out.size
          replace HOq40 := Go.Proofs.YtlcmjdkbeckdnaaTree.S_b HOq40 hb
          replace HOq44 := Go.Proofs.YtlcmjdkbeckdnaaTree.S_b HOq44 hb
          replace HKg1 := Go.Proofs.YtlcmjdkbeckdnaaTree.B_b HKg1 hb
          replace HKg4 := Go.Proofs.YtlcmjdkbeckdnaaTree.B_b HKg4 hb
          replace HS := Go.Proofs.YtlcmjdkbeckdnaaTree.Z_b HS hb
          replace HB := Go.Proofs.YtlcmjdkbeckdnaaTree.H_b HB hb
          replace HS := HZ50
          clear ho0
          clear hb
          refine hK.out _ _ ⟨(blk_cell HKg1.out 0).trans rfl, (blk_cell HKg1.out 1).trans rfl, (blk_cell HKg1.out 2).trans rfl, (blk_cell HKg1.out 3).trans rfl, (blk_cell HKg4.out 0).trans rfl, (blk_cell HKg4.out 1).trans rfl, (blk_cell HKg4.out 2).trans rfl, (blk_cell HKg4.out 3).trans rfl⟩ (fun hHeld => ?_)
          clear hK K
          refine norm_ (a' := ?_) ?_ ?_
          rotate_left
          · show Act.put _ (some 28) _ = _
            simp only [Act.put, List.setIfInBounds_toArray, List.set_cons_zero, List.set_cons_succ, i64_w, i32_w]
            rfl
          refine one_ (i := 5) (N := some 6) #[true, true, true, true, true, true, false] rfl rfl (by kernel_rfl) (by decide) (fun K hK => ?_)
          refine box_step ?hg (N := 6) ?hd (cs := #[.int .i64 0, .int .i64 0, .int .i64 0, .slice none 0 0]) (t := 29) ?hr ?_; (case hd => rfl); (case hg => rfl); (case hr => first | (go_simp; done) | (go_simp; rfl))
          intro g51 hg w52 hbox hb
          have HZ53 : Aside0 (Uq48 ≤ g51 ∧ w.heap.size ≤ g51) := ⟨by rw [hg]; exact ⟨HS.out, HB.out.size⟩⟩
          replace HOq40 := Go.Proofs.YtlcmjdkbeckdnaaTree.S_b HOq40 hb
          replace HOq44 := Go.Proofs.YtlcmjdkbeckdnaaTree.S_b HOq44 hb
          replace HOq48 := Go.Proofs.YtlcmjdkbeckdnaaTree.S_b HOq48 hb
          replace HKg1 := Go.Proofs.YtlcmjdkbeckdnaaTree.B_b HKg1 hb
          replace HKg4 := Go.Proofs.YtlcmjdkbeckdnaaTree.B_b HKg4 hb
          replace HS := Go.Proofs.YtlcmjdkbeckdnaaTree.Z_b HS hb
          replace HB := Go.Proofs.YtlcmjdkbeckdnaaTree.H_b HB hb
          have HKg51 := Aside0.mk hbox
          replace HS : Aside0 (g51 + 1 ≤ w52.heap.size) := ⟨blk_lt hbox⟩
          clear hg hbox hb
          refine hK.out _ _ ⟨(blk_cell HKg1.out 0).trans rfl, (blk_cell HKg1.out 1).trans rfl, (blk_cell HKg1.out 2).trans rfl, (blk_cell HKg1.out 3).trans rfl, (blk_cell HKg4.out 0).trans rfl, (blk_cell HKg4.out 1).trans rfl, (blk_cell HKg4.out 2).trans rfl, (blk_cell HKg4.out 3).trans rfl⟩ (fun hHeld => ?_)
          clear hK K
          refine norm_ (a' := ?_) ?_ ?_
          rotate_left
          · show Act.put _ (some 6) _ = _
            simp only [Act.put, List.setIfInBounds_toArray, List.set_cons_zero, List.set_cons_succ, i64_w, i32_w]
            rfl
          have hcj : g4 + 1 ≤ Lq48 ∧ Lq48 ≤ Uq48 ∧ Uq48 ≤ w52.heap.size ∧ g4 + 1 ≤ g51 ∧ g51 + 1 ≤ w52.heap.size ∧ (g51 + 1 ≤ Lq48 ∨ Uq48 ≤ g51) ∧ w.heap.size ≤ g51 := (by have := HZ3.out; have := HZ6.out; have := HZ41.out; have := HZ45.out; have := HZ49.out; have := HZ53.out; have := HS.out; omega)
          exact norm_ (by simp only [putAll, Act.put, List.setIfInBounds_toArray, List.set_cons_zero, List.set_cons_succ]) (hCont (.slice Aq40 t28.length cq40, .slice Aq44 t33.length cq44, .slice Aq48 t38.length cq48, g51, Lq48, Uq48, w52.heap.size) _ ⟨hHeld, HOq48.out, HKg1.out, HKg4.out, HKg51.out, hcj, Nat.le_refl _, HB.out⟩)
        · skip
          refine box_step ?hg (N := 6) ?hd (cs := #[.int .i64 0, .int .i64 0, .int .i64 0, .slice none 0 0]) (t := 29) ?hr ?_; (case hd => rfl); (case hg => rfl); (case hr => first | (go_simp; done) | (go_simp; rfl))
          intro g54 hg w55 hbox hb
          have HZ56 : Aside0 (Uq44 ≤ g54 ∧ w.heap.size ≤ g54) := ⟨by rw [hg]; exact ⟨HS.out, HB.out.size⟩⟩
          replace HOq40 := Go.Proofs.YtlcmjdkbeckdnaaTree.S_b HOq40 hb
          replace HOq44 := Go.Proofs.YtlcmjdkbeckdnaaTree.S_b HOq44 hb
          replace HKg1 := Go.Proofs.YtlcmjdkbeckdnaaTree.B_b HKg1 hb
          replace HKg4 := Go.Proofs.YtlcmjdkbeckdnaaTree.B_b HKg4 hb
          replace HS := Go.Proofs.YtlcmjdkbeckdnaaTree.Z_b HS hb
          replace HB := Go.Proofs.YtlcmjdkbeckdnaaTree.H_b HB hb
          have HKg54 := Aside0.mk hbox
          replace HS : Aside0 (g54 + 1 ≤ w55.heap.size) := ⟨blk_lt hbox⟩
          clear hg hbox hb
          refine hK.out _ _ ⟨(blk_cell HKg1.out 0).trans rfl, (blk_cell HKg1.out 1).trans rfl, (blk_cell HKg1.out 2).trans rfl, (blk_cell HKg1.out 3).trans rfl, (blk_cell HKg4.out 0).trans rfl, (blk_cell HKg4.out 1).trans rfl, (blk_cell HKg4.out 2).trans rfl, (blk_cell HKg4.out 3).trans rfl⟩ (fun hHeld => ?_)
          clear hK K
          refine norm_ (a' := ?_) ?_ ?_
          rotate_left
          · show Act.put _ (some 6) _ = _
            simp only [Act.put, List.setIfInBounds_toArray, List.set_cons_zero, List.set_cons_succ, i64_w, i32_w]
            rfl
          refine one_ (i := 4) (N := some 28) #[true, true, true, true, true, true, false] rfl rfl (by kernel_rfl) (by decide) (fun K hK => ?_)
          refine goes_ Try.func25 (by kernel_rfl) rfl #[.agg #[.int .i64 t25, .int .i64 t26, .int .i64 t27, .slice Aq40 t28.length cq40], .agg #[.int .i64 t30, .int .i64 t31, .int .i64 t32, .slice Aq44 t33.length cq44]] (by rfl) rfl rfl (by (try simp only [List.map_toArray, List.map_cons, List.map_nil]); first | done | rfl) ?_
          with_reducible refine (spec_CondOr.calls k t25 t26 t27 _ _ t28 t30 t31 t32 _ _ t33 t35 t36 t37 t38 _ ?side1 ?side2 ?side3 ?side4 E34.out).mono ?_
          (case side1 => exact (Kd.S_reads' HOq40.out).2.2)
          (case side2 => exact (Kd.S_reads' HOq40.out).2.1)
          (case side3 => exact (Kd.S_reads' HOq44.out).2.2)
          (case side4 => exact (Kd.S_reads' HOq44.out).2.1)
          rintro e w57 ⟨v_0, rfl, ho0, hb⟩
          obtain ⟨Aq58, cq58, rfl⟩ := Kd.S_slice ho0
          refine ⟨_, rfl, ?_⟩
          obtain ⟨Lq58, Uq58, HZ59, HZ60, HOq58⟩ := Go.Proofs.YtlcmjdkbeckdnaaTree.S_made ho0 HS.out hb HB.out.size
          replace HOq40 := Go.Proofs.YtlcmjdkbeckdnaaTree.S_b HOq40 hb
          replace HOq44 := Go.Proofs.YtlcmjdkbeckdnaaTree.S_b HOq44 hb
          replace HKg1 := Go.Proofs.YtlcmjdkbeckdnaaTree.B_b HKg1 hb
          replace HKg4 := Go.Proofs.YtlcmjdkbeckdnaaTree.B_b HKg4 hb
          replace HKg54 := Go.Proofs.YtlcmjdkbeckdnaaTree.B_b HKg54 hb
          replace HS := Go.Proofs.YtlcmjdkbeckdnaaTree.Z_b HS hb
          replace HB := Go.Proofs.YtlcmjdkbeckdnaaTree.H_b HB hb
          replace HS := HZ60
          clear ho0
          clear hb
          refine hK.out _ _ ⟨(blk_cell HKg1.out 0).trans rfl, (blk_cell HKg1.out 1).trans rfl, (blk_cell HKg1.out 2).trans rfl, (blk_cell HKg1.out 3).trans rfl, (blk_cell HKg4.out 0).trans rfl, (blk_cell HKg4.out 1).trans rfl, (blk_cell HKg4.out 2).trans rfl, (blk_cell HKg4.out 3).trans rfl⟩ (fun hHeld => ?_)
          clear hK K
          refine norm_ (a' := ?_) ?_ ?_
          rotate_left
          · show Act.put _ (some 28) _ = _
            simp only [Act.put, List.setIfInBounds_toArray, List.set_cons_zero, List.set_cons_succ, i64_w, i32_w]
            rfl
          have hcj : g4 + 1 ≤ Lq58 ∧ Lq58 ≤ Uq58 ∧ Uq58 ≤ w57.heap.size ∧ g4 + 1 ≤ g54 ∧ g54 + 1 ≤ w57.heap.size ∧ (g54 + 1 ≤ Lq58 ∨ Uq58 ≤ g54) ∧ w.heap.size ≤ g54 := (by have := HZ3.out; have := HZ6.out; have := HZ41.out; have := HZ45.out; have := HZ56.out; have := HZ59.out; have := HS.out; omega)
          exact norm_ (by simp only [putAll, Act.put, List.setIfInBounds_toArray, List.set_cons_zero, List.set_cons_succ]) (hCont (.slice Aq40 t28.length cq40, .slice Aq44 t33.length cq44, .slice Aq58 t38.length cq58, g54, Lq58, Uq58, w57.heap.size) _ ⟨hHeld, HOq58.out, HKg1.out, HKg4.out, HKg54.out, hcj, Nat.le_refl _, HB.out⟩)
      · skip
        refine box_step ?hg (N := 6) ?hd (cs := #[.int .i64 0, .int .i64 0, .int .i64 0, .slice none 0 0]) (t := 29) ?hr ?_; (case hd => rfl); (case hg => rfl); (case hr => first | (go_simp; done) | (go_simp; rfl))
        intro g61 hg w62 hbox hb
        have HZ63 : Aside0 (Uq40 ≤ g61 ∧ w.heap.size ≤ g61) := ⟨by rw [hg]; exact ⟨HS.out, HB.out.size⟩⟩
        replace HOq40 := Go.Proofs.YtlcmjdkbeckdnaaTree.S_b HOq40 hb
        replace HKg1 := Go.Proofs.YtlcmjdkbeckdnaaTree.B_b HKg1 hb
        replace HKg4 := Go.Proofs.YtlcmjdkbeckdnaaTree.B_b HKg4 hb
        replace HS := Go.Proofs.YtlcmjdkbeckdnaaTree.Z_b HS hb
        replace HB := Go.Proofs.YtlcmjdkbeckdnaaTree.H_b HB hb
        have HKg61 := Aside0.mk hbox
        replace HS : Aside0 (g61 + 1 ≤ w62.heap.size) := ⟨blk_lt hbox⟩
        clear hg hbox hb
        refine hK.out _ _ ⟨(blk_cell HKg1.out 0).trans rfl, (blk_cell HKg1.out 1).trans rfl, (blk_cell HKg1.out 2).trans rfl, (blk_cell HKg1.out 3).trans rfl, (blk_cell HKg4.out 0).trans rfl, (blk_cell HKg4.out 1).trans rfl, (blk_cell HKg4.out 2).trans rfl, (blk_cell HKg4.out 3).trans rfl⟩ (fun hHeld => ?_)
        clear hK K
        refine norm_ (a' := ?_) ?_ ?_
        rotate_left
        · show Act.put _ (some 6) _ = _
          simp only [Act.put, List.setIfInBounds_toArray, List.set_cons_zero, List.set_cons_succ, i64_w, i32_w]
          rfl
        refine one_ (i := 3) (N := some 27) #[true, true, true, true, false, true, false] rfl rfl (by kernel_rfl) (by decide) (fun K hK => ?_)
        refine goes_ Try.func14 (by kernel_rfl) rfl #[.agg #[.int .i64 a1_0, .int .i64 a1_1, .int .i64 a1_2, .slice A1_3 l1_3.length c1_3]] (by rfl) rfl rfl (by (try simp only [List.map_toArray, List.map_cons, List.map_nil]); first | done | rfl) ?_
        with_reducible refine (laws_toCond.calls k a1_0 a1_1 a1_2 _ _ l1_3 t30 t31 t32 t33 _ ?side1 ?side2 E29.out).mono ?_
        (case side1 => exact Kd.C_below HR1_3.out HB.out)
        (case side2 => exact HC1_3.out)
        rintro e w64 ⟨v_0, rfl, ho0, hb⟩
        obtain ⟨Aq65, cq65, rfl⟩ := Kd.S_slice ho0
        refine ⟨_, rfl, ?_⟩
        obtain ⟨Lq65, Uq65, HZ66, HZ67, HOq65⟩ := Go.Proofs.YtlcmjdkbeckdnaaTree.S_made ho0 HS.out hb HB.out.size
        replace HOq40 := Go.Proofs.YtlcmjdkbeckdnaaTree.S_b HOq40 hb
        replace HKg1 := Go.Proofs.YtlcmjdkbeckdnaaTree.B_b HKg1 hb
        replace HKg4 := Go.Proofs.YtlcmjdkbeckdnaaTree.B_b HKg4 hb
        replace HKg61 := Go.Proofs.YtlcmjdkbeckdnaaTree.B_b HKg61 hb
        replace HS := Go.Proofs.YtlcmjdkbeckdnaaTree.Z_b HS hb
        replace HB := Go.Proofs.YtlcmjdkbeckdnaaTree.H_b HB hb
        replace HS := HZ67
        clear ho0
        clear hb
        refine hK.out _ _ ⟨(blk_cell HKg1.out 0).trans rfl, (blk_cell HKg1.out 1).trans rfl, (blk_cell HKg1.out 2).trans rfl, (blk_cell HKg1.out 3).trans rfl, (blk_cell HKg4.out 0).trans rfl, (blk_cell HKg4.out 1).trans rfl, (blk_cell HKg4.out 2).trans rfl, (blk_cell HKg4.out 3).trans rfl⟩ (fun hHeld => ?_)
        clear hK K
        refine norm_ (a' := ?_) ?_ ?_
        rotate_left
        · show Act.put _ (some 27) _ = _
          simp only [Act.put, List.setIfInBounds_toArray, List.set_cons_zero, List.set_cons_succ, i64_w, i32_w]
          rfl
        refine one_ (i := 4) (N := some 28) #[true, true, true, true, true, true, false] rfl rfl (by kernel_rfl) (by decide) (fun K hK => ?_)
        refine goes_ Try.func25 (by kernel_rfl) rfl #[.agg #[.int .i64 t25, .int .i64 t26, .int .i64 t27, .slice Aq40 t28.length cq40], .agg #[.int .i64 t30, .int .i64 t31, .int .i64 t32, .slice Aq65 t33.length cq65]] (by rfl) rfl rfl (by (try simp only [List.map_toArray, List.map_cons, List.map_nil]); first | done | rfl) ?_
        with_reducible refine (spec_CondOr.calls k t25 t26 t27 _ _ t28 t30 t31 t32 _ _ t33 t35 t36 t37 t38 _ ?side1 ?side2 ?side3 ?side4 E34.out).mono ?_
        (case side1 => exact (Kd.S_reads' HOq40.out).2.2)
        (case side2 => exact (Kd.S_reads' HOq40.out).2.1)
        (case side3 => exact (Kd.S_reads' HOq65.out).2.2)
        (case side4 => exact (Kd.S_reads' HOq65.out).2.1)
        rintro e w68 ⟨v_0, rfl, ho0, hb⟩
        obtain ⟨Aq69, cq69, rfl⟩ := Kd.S_slice ho0
        refine ⟨_, rfl, ?_⟩
        obtain ⟨Lq69, Uq69, HZ70, HZ71, HOq69⟩ := Go.Proofs.YtlcmjdkbeckdnaaTree.S_made ho0 HS.out hb HB.out.size
        replace HOq40 := Go.Proofs.YtlcmjdkbeckdnaaTree.S_b HOq40 hb
        replace HOq65 := Go.Proofs.YtlcmjdkbeckdnaaTree.S_b HOq65 hb
        replace HKg1 := Go.Proofs.YtlcmjdkbeckdnaaTree.B_b HKg1 hb
        replace HKg4 := Go.Proofs.YtlcmjdkbeckdnaaTree.B_b HKg4 hb
        replace HKg61 := Go.Proofs.YtlcmjdkbeckdnaaTree.B_b HKg61 hb
        replace HS := Go.Proofs.YtlcmjdkbeckdnaaTree.Z_b HS hb
        replace HB := Go.Proofs.YtlcmjdkbeckdnaaTree.H_b HB hb
        replace HS := HZ71
        clear ho0
        clear hb
        refine hK.out _ _ ⟨(blk_cell HKg1.out 0).trans rfl, (blk_cell HKg1.out 1).trans rfl, (blk_cell HKg1.out 2).trans rfl, (blk_cell HKg1.out 3).trans rfl, (blk_cell HKg4.out 0).trans rfl, (blk_cell HKg4.out 1).trans rfl, (blk_cell HKg4.out 2).trans rfl, (blk_cell HKg4.out 3).trans rfl⟩ (fun hHeld => ?_)
        clear hK K
        refine norm_ (a' := ?_) ?_ ?_
        rotate_left
        · show Act.put _ (some 28) _ = _
          simp only [Act.put, List.setIfInBounds_toArray, List.set_cons_zero, List.set_cons_succ, i64_w, i32_w]
          rfl
        have hcj : g4 + 1 ≤ Lq69 ∧ Lq69 ≤ Uq69 ∧ Uq69 ≤ w68.heap.size ∧ g4 + 1 ≤ g61 ∧ g61 + 1 ≤ w68.heap.size ∧ (g61 + 1 ≤ Lq69 ∨ Uq69 ≤ g61) ∧ w.heap.size ≤ g61 := (by have := HZ3.out; have := HZ6.out; have := HZ41.out; have := HZ63.out; have := HZ66.out; have := HZ70.out; have := HS.out; omega)
        exact norm_ (by simp only [putAll, Act.put, List.setIfInBounds_toArray, List.set_cons_zero, List.set_cons_succ]) (hCont (.slice Aq40 t28.length cq40, .slice Aq65 t33.length cq65, .slice Aq69 t38.length cq69, g61, Lq69, Uq69, w68.heap.size) _ ⟨hHeld, HOq69.out, HKg1.out, HKg4.out, HKg61.out, hcj, Nat.le_refl _, HB.out⟩)
    · skip
      refine box_step ?hg (N := 6) ?hd (cs := #[.int .i64 0, .int .i64 0, .int .i64 0, .slice none 0 0]) (t := 29) ?hr ?_; (case hd => rfl); (case hg => rfl); (case hr => first | (go_simp; done) | (go_simp; rfl))
      intro g72 hg w73 hbox hb
      have HZ74 : Aside0 (g4 + 1 ≤ g72 ∧ w.heap.size ≤ g72) := ⟨by rw [hg]; exact ⟨HS.out, HB.out.size⟩⟩
      replace HKg1 := Go.Proofs.YtlcmjdkbeckdnaaTree.B_b HKg1 hb
      replace HKg4 := Go.Proofs.YtlcmjdkbeckdnaaTree.B_b HKg4 hb
      replace HS := Go.Proofs.YtlcmjdkbeckdnaaTree.Z_b HS hb
      replace HB := Go.Proofs.YtlcmjdkbeckdnaaTree.H_b HB hb
      have HKg72 := Aside0.mk hbox
      replace HS : Aside0 (g72 + 1 ≤ w73.heap.size) := ⟨blk_lt hbox⟩
      clear hg hbox hb
      refine hK.out _ _ ⟨(blk_cell HKg1.out 0).trans rfl, (blk_cell HKg1.out 1).trans rfl, (blk_cell HKg1.out 2).trans rfl, (blk_cell HKg1.out 3).trans rfl, (blk_cell HKg4.out 0).trans rfl, (blk_cell HKg4.out 1).trans rfl, (blk_cell HKg4.out 2).trans rfl, (blk_cell HKg4.out 3).trans rfl⟩ (fun hHeld => ?_)
      clear hK K
      refine norm_ (a' := ?_) ?_ ?_
      rotate_left
      · show Act.put _ (some 6) _ = _
        simp only [Act.put, List.setIfInBounds_toArray, List.set_cons_zero, List.set_cons_succ, i64_w, i32_w]
        rfl
      refine one_ (i := 1) (N := some 25) #[true, true, true, false, false, true, false] rfl rfl (by kernel_rfl) (by decide) (fun K hK => ?_)
      refine goes_ Try.func14 (by kernel_rfl) rfl #[.agg #[.int .i64 a0_0, .int .i64 a0_1, .int .i64 a0_2, .slice A0_3 l0_3.length c0_3]] (by rfl) rfl rfl (by (try simp only [List.map_toArray, List.map_cons, List.map_nil]); first | done | rfl) ?_
      with_reducible refine (laws_toCond.calls k a0_0 a0_1 a0_2 _ _ l0_3 t25 t26 t27 t28 _ ?side1 ?side2 E24.out).mono ?_
      (case side1 => exact Kd.C_below HR0_3.out HB.out)
      (case side2 => exact HC0_3.out)
      rintro e w75 ⟨v_0, rfl, ho0, hb⟩
      obtain ⟨Aq76, cq76, rfl⟩ := Kd.S_slice ho0
      refine ⟨_, rfl, ?_⟩
      obtain ⟨Lq76, Uq76, HZ77, HZ78, HOq76⟩ := Go.Proofs.YtlcmjdkbeckdnaaTree.S_made ho0 HS.out hb HB.out.size
      replace HKg1 := Go.Proofs.YtlcmjdkbeckdnaaTree.B_b HKg1 hb
      replace HKg4 := Go.Proofs.YtlcmjdkbeckdnaaTree.B_b HKg4 hb
      replace HKg72 := Go.Proofs.YtlcmjdkbeckdnaaTree.B_b HKg72 hb
      replace HS := Go.Proofs.YtlcmjdkbeckdnaaTree.Z_b HS hb
      replace HB := Go.Proofs.YtlcmjdkbeckdnaaTree.H_b HB hb
      replace HS := HZ78
      clear ho0
      clear hb
      refine hK.out _ _ ⟨(blk_cell HKg1.out 0).trans rfl, (blk_cell HKg1.out 1).trans rfl, (blk_cell HKg1.out 2).trans rfl, (blk_cell HKg1.out 3).trans rfl, (blk_cell HKg4.out 0).trans rfl, (blk_cell HKg4.out 1).trans rfl, (blk_cell HKg4.out 2).trans rfl, (blk_cell HKg4.out 3).trans rfl⟩ (fun hHeld => ?_)
      clear hK K
      refine norm_ (a' := ?_) ?_ ?_
      rotate_left
      · show Act.put _ (some 25) _ = _
        simp only [Act.put, List.setIfInBounds_toArray, List.set_cons_zero, List.set_cons_succ, i64_w, i32_w]
        rfl
      refine one_ (i := 3) (N := some 27) #[true, true, true, true, false, true, false] rfl rfl (by kernel_rfl) (by decide) (fun K hK => ?_)
      refine goes_ Try.func14 (by kernel_rfl) rfl #[.agg #[.int .i64 a1_0, .int .i64 a1_1, .int .i64 a1_2, .slice A1_3 l1_3.length c1_3]] (by rfl) rfl rfl (by (try simp only [List.map_toArray, List.map_cons, List.map_nil]); first | done | rfl) ?_
      with_reducible refine (laws_toCond.calls k a1_0 a1_1 a1_2 _ _ l1_3 t30 t31 t32 t33 _ ?side1 ?side2 E29.out).mono ?_
      (case side1 => exact Kd.C_below HR1_3.out HB.out)
      (case side2 => exact HC1_3.out)
      rintro e w79 ⟨v_0, rfl, ho0, hb⟩
      obtain ⟨Aq80, cq80, rfl⟩ := Kd.S_slice ho0
      refine ⟨_, rfl, ?_⟩
      obtain ⟨Lq80, Uq80, HZ81, HZ82, HOq80⟩ := Go.Proofs.YtlcmjdkbeckdnaaTree.S_made ho0 HS.out hb HB.out.size
      replace HOq76 := Go.Proofs.YtlcmjdkbeckdnaaTree.S_b HOq76 hb
      replace HKg1 := Go.Proofs.YtlcmjdkbeckdnaaTree.B_b HKg1 hb
      replace HKg4 := Go.Proofs.YtlcmjdkbeckdnaaTree.B_b HKg4 hb
      replace HKg72 := Go.Proofs.YtlcmjdkbeckdnaaTree.B_b HKg72 hb
      replace HS := Go.Proofs.YtlcmjdkbeckdnaaTree.Z_b HS hb
      replace HB := Go.Proofs.YtlcmjdkbeckdnaaTree.H_b HB hb
      replace HS := HZ82
      clear ho0
      clear hb
      refine hK.out _ _ ⟨(blk_cell HKg1.out 0).trans rfl, (blk_cell HKg1.out 1).trans rfl, (blk_cell HKg1.out 2).trans rfl, (blk_cell HKg1.out 3).trans rfl, (blk_cell HKg4.out 0).trans rfl, (blk_cell HKg4.out 1).trans rfl, (blk_cell HKg4.out 2).trans rfl, (blk_cell HKg4.out 3).trans rfl⟩ (fun hHeld => ?_)
      clear hK K
      refine norm_ (a' := ?_) ?_ ?_
      rotate_left
      · show Act.put _ (some 27) _ = _
        simp only [Act.put, List.setIfInBounds_toArray, List.set_cons_zero, List.set_cons_succ, i64_w, i32_w]
        rfl
      refine one_ (i := 4) (N := some 28) #[true, true, true, true, true, true, false] rfl rfl (by kernel_rfl) (by decide) (fun K hK => ?_)
      refine goes_ Try.func25 (by kernel_rfl) rfl #[.agg #[.int .i64 t25, .int .i64 t26, .int .i64 t27, .slice Aq76 t28.length cq76], .agg #[.int .i64 t30, .int .i64 t31, .int .i64 t32, .slice Aq80 t33.length cq80]] (by rfl) rfl rfl (by (try simp only [List.map_toArray, List.map_cons, List.map_nil]); first | done | rfl) ?_
      with_reducible refine (spec_CondOr.calls k t25 t26 t27 _ _ t28 t30 t31 t32 _ _ t33 t35 t36 t37 t38 _ ?side1 ?side2 ?side3 ?side4 E34.out).mono ?_
      (case side1 => exact (Kd.S_reads' HOq76.out).2.2)
      (case side2 => exact (Kd.S_reads' HOq76.out).2.1)
      (case side3 => exact (Kd.S_reads' HOq80.out).2.2)
      (case side4 => exact (Kd.S_reads' HOq80.out).2.1)
      rintro e w83 ⟨v_0, rfl, ho0, hb⟩
      obtain ⟨Aq84, cq84, rfl⟩ := Kd.S_slice ho0
      refine ⟨_, rfl, ?_⟩
      obtain ⟨Lq84, Uq84, HZ85, HZ86, HOq84⟩ := Go.Proofs.YtlcmjdkbeckdnaaTree.S_made ho0 HS.out hb HB.out.size
      replace HOq76 := Go.Proofs.YtlcmjdkbeckdnaaTree.S_b HOq76 hb
      replace HOq80 := Go.Proofs.YtlcmjdkbeckdnaaTree.S_b HOq80 hb
      replace HKg1 := Go.Proofs.YtlcmjdkbeckdnaaTree.B_b HKg1 hb
      replace HKg4 := Go.Proofs.YtlcmjdkbeckdnaaTree.B_b HKg4 hb
      replace HKg72 := Go.Proofs.YtlcmjdkbeckdnaaTree.B_b HKg72 hb
      replace HS := Go.Proofs.YtlcmjdkbeckdnaaTree.Z_b HS hb
      replace HB := Go.Proofs.YtlcmjdkbeckdnaaTree.H_b HB hb
      replace HS := HZ86
      clear ho0
      clear hb
      refine hK.out _ _ ⟨(blk_cell HKg1.out 0).trans rfl, (blk_cell HKg1.out 1).trans rfl, (blk_cell HKg1.out 2).trans rfl, (blk_cell HKg1.out 3).trans rfl, (blk_cell HKg4.out 0).trans rfl, (blk_cell HKg4.out 1).trans rfl, (blk_cell HKg4.out 2).trans rfl, (blk_cell HKg4.out 3).trans rfl⟩ (fun hHeld => ?_)
      clear hK K
      refine norm_ (a' := ?_) ?_ ?_
      rotate_left
      · show Act.put _ (some 28) _ = _
        simp only [Act.put, List.setIfInBounds_toArray, List.set_cons_zero, List.set_cons_succ, i64_w, i32_w]
        rfl
      have hcj : g4 + 1 ≤ Lq84 ∧ Lq84 ≤ Uq84 ∧ Uq84 ≤ w83.heap.size ∧ g4 + 1 ≤ g72 ∧ g72 + 1 ≤ w83.heap.size ∧ (g72 + 1 ≤ Lq84 ∨ Uq84 ≤ g72) ∧ w.heap.size ≤ g72 := (by have := HZ3.out; have := HZ6.out; have := HZ74.out; have := HZ77.out; have := HZ81.out; have := HZ85.out; have := HS.out; omega)
      exact norm_ (by simp only [putAll, Act.put, List.setIfInBounds_toArray, List.set_cons_zero, List.set_cons_succ]) (hCont (.slice Aq76 t28.length cq76, .slice Aq80 t33.length cq80, .slice Aq84 t38.length cq84, g72, Lq84, Uq84, w83.heap.size) _ ⟨hHeld, HOq84.out, HKg1.out, HKg4.out, HKg72.out, hcj, Nat.le_refl _, HB.out⟩)
  rintro ⟨u87, u88, u89, g90, L91, U92, M93⟩ w94 ⟨hS_, h0_, h1_, h2_, h3_, h4_, h5_, h6_⟩
  clear HKg1 HKg4 HS HB hHeld
  have HOq95 : Aside0 (Kd.S k29 29 w94 w.heap.size (fun x => L91 ≤ x ∧ x < U92) u89 t38) := ⟨h0_⟩
  have HKg1 : Aside0 (w94.heap[g1]? = some (.cells #[.int .i64 a0_0, .int .i64 a0_1, .int .i64 a0_2, .slice A0_3 l0_3.length c0_3] 24 (0, 0))) := ⟨h1_⟩
  have HKg4 : Aside0 (w94.heap[g4]? = some (.cells #[.int .i64 a1_0, .int .i64 a1_1, .int .i64 a1_2, .slice A1_3 l1_3.length c1_3] 24 (0, 0))) := ⟨h2_⟩
  have HKg90 : Aside0 (w94.heap[g90]? = some (.cells #[.int .i64 0, .int .i64 0, .int .i64 0, .slice none 0 0] 29 (0, 0))) := ⟨h3_⟩
  have HZ96 : Aside0 ((g4 + 1 ≤ L91 ∧ L91 ≤ U92 ∧ U92 ≤ M93 ∧ g4 + 1 ≤ g90 ∧ g90 + 1 ≤ M93 ∧ (g90 + 1 ≤ L91 ∨ U92 ≤ g90) ∧ w.heap.size ≤ g90)) := ⟨h4_⟩
  have HS : Aside0 (M93 ≤ w94.heap.size) := ⟨h5_⟩
  have HB : Aside0 (Below w.heap.size w w94) := ⟨h6_⟩
  have hHeld : w94.cell? ⟨g1, 0, none⟩ = some (.int .i64 a0_0) ∧ w94.cell? ⟨g1, 1, none⟩ = some (.int .i64 a0_1) ∧ w94.cell? ⟨g1, 2, none⟩ = some (.int .i64 a0_2) ∧ w94.cell? ⟨g1, 3, none⟩ = some (.slice A0_3 l0_3.length c0_3) ∧ w94.cell? ⟨g4, 0, none⟩ = some (.int .i64 a1_0) ∧ w94.cell? ⟨g4, 1, none⟩ = some (.int .i64 a1_1) ∧ w94.cell? ⟨g4, 2, none⟩ = some (.int .i64 a1_2) ∧ w94.cell? ⟨g4, 3, none⟩ = some (.slice A1_3 l1_3.length c1_3) := hS_
  clear hS_ h0_ h1_ h2_ h3_ h4_ h5_ h6_
  obtain ⟨Aq95, cq95, rfl⟩ := Kd.S_slice HOq95.out
  refine norm_ (a' := ?_) ?_ ?_
  rotate_left
  · simp only [putAll, Act.put, List.setIfInBounds_toArray, List.set_cons_zero, List.set_cons_succ]
    rfl
  refine one_ (i := 6) (N := none) #[true, true, true, true, true, true, true] rfl rfl (by kernel_rfl) (by decide) (fun K hK => ?_)
  have hc98 : w94.cell? ⟨g90, 0, none⟩ = some (.int .i64 0) := (blk_cell HKg90.out 0).trans rfl
  have hf99 := blk_frozen HKg90.out 0
  have hc100 : w94.cell? ⟨g90, 1, none⟩ = some (.int .i64 0) := (blk_cell HKg90.out 1).trans rfl
  have hf101 := blk_frozen HKg90.out 1
  have hc102 : w94.cell? ⟨g90, 2, none⟩ = some (.int .i64 0) := (blk_cell HKg90.out 2).trans rfl
  have hf103 := blk_frozen HKg90.out 2
  have hc104 : w94.cell? ⟨g90, 3, none⟩ = some (.slice none 0 0) := (blk_cell HKg90.out 3).trans rfl
  have hf105 := blk_frozen HKg90.out 3
  refine skip_ (w1 := ((((w94.setCell ⟨g90, 0, none⟩ (.int .i64 t35)).setCell ⟨g90, 1, none⟩ (.int .i64 t36)).setCell ⟨g90, 2, none⟩ (.int .i64 t37)).setCell ⟨g90, 3, none⟩ (.slice Aq95 t38.length cq95))) (by rfl) rfl ?_ ?_
  · first | (go_simp; done) | (go_simp; rfl)
  obtain ⟨w97, hw⟩ : ∃ x, x = ((((w94.setCell ⟨g90, 0, none⟩ (.int .i64 t35)).setCell ⟨g90, 1, none⟩ (.int .i64 t36)).setCell ⟨g90, 2, none⟩ (.int .i64 t37)).setCell ⟨g90, 3, none⟩ (.slice Aq95 t38.length cq95)) := ⟨_, rfl⟩
  rw [← hw]
  (try clear hc98 hf99 hc100 hf101 hc102 hf103 hc104 hf105)
  have hge_ : w.heap.size ≤ g90 := (by have := HZ3.out; have := HZ6.out; have := HZ96.out; omega)
  have hk : Kept w94 w97 (fun x => x = g90) := (by rw [hw]; exact Go.Proofs.YtlcmjdkbeckdnaaTree.kept_cell (Go.Proofs.YtlcmjdkbeckdnaaTree.kept_cell (Go.Proofs.YtlcmjdkbeckdnaaTree.kept_cell (Go.Proofs.YtlcmjdkbeckdnaaTree.kept_cell (Kept.refl _ _) 0 _) 1 _) 2 _) 3 _)
  replace HB : Aside0 (Below w.heap.size w w97) := ⟨by rw [hw]; exact below_set (below_set (below_set (below_set (HB.out) hge_) hge_) hge_) hge_⟩
  replace HKg90 : Aside0 (w97.heap[g90]? = some (.cells #[.int .i64 t35, .int .i64 t36, .int .i64 t37, .slice Aq95 t38.length cq95] 29 (0, 0))) := ⟨by rw [hw]; exact blk_put (cs := #[.int .i64 t35, .int .i64 t36, .int .i64 t37, .slice none 0 0]) (blk_put (cs := #[.int .i64 t35, .int .i64 t36, .int .i64 0, .slice none 0 0]) (blk_put (cs := #[.int .i64 t35, .int .i64 0, .int .i64 0, .slice none 0 0]) (blk_put (cs := #[.int .i64 0, .int .i64 0, .int .i64 0, .slice none 0 0]) (HKg90.out) 0 _ rfl) 1 _ rfl) 2 _ rfl) 3 _ rfl⟩
  replace HOq95 := Go.Proofs.YtlcmjdkbeckdnaaTree.S_k HOq95 hk (fun x h1 h2 => (by have := HZ3.out; have := HZ6.out; have := HZ96.out; have h3_ : L91 ≤ x ∧ x < U92 := h1; have h4_ : x = g90 := h2; omega))
  replace HKg1 := Go.Proofs.YtlcmjdkbeckdnaaTree.B_k HKg1 hk (fun h2 => (by have := HZ3.out; have := HZ6.out; have := HZ96.out; have h4_ : g1 = g90 := h2; omega))
  replace HKg4 := Go.Proofs.YtlcmjdkbeckdnaaTree.B_k HKg4 hk (fun h2 => (by have := HZ3.out; have := HZ6.out; have := HZ96.out; have h4_ : g4 = g90 := h2; omega))
  replace HS := Go.Proofs.YtlcmjdkbeckdnaaTree.Z_k HS hk
  clear hw hk hge_
  refine hK.out _ _ ⟨(blk_cell HKg1.out 0).trans rfl, (blk_cell HKg1.out 1).trans rfl, (blk_cell HKg1.out 2).trans rfl, (blk_cell HKg1.out 3).trans rfl, (blk_cell HKg4.out 0).trans rfl, (blk_cell HKg4.out 1).trans rfl, (blk_cell HKg4.out 2).trans rfl, (blk_cell HKg4.out 3).trans rfl⟩ (fun hHeld => ?_)
  clear hK K
  refine done_ (by kernel_rfl) ?_
  have hc106 : w97.cell? ⟨g1, 0, none⟩ = some (.int .i64 a0_0) := (blk_cell HKg1.out 0).trans rfl
  have hc107 : w97.cell? ⟨g1, 1, none⟩ = some (.int .i64 a0_1) := (blk_cell HKg1.out 1).trans rfl
  have hc108 : w97.cell? ⟨g1, 2, none⟩ = some (.int .i64 a0_2) := (blk_cell HKg1.out 2).trans rfl
  have hc109 : w97.cell? ⟨g1, 3, none⟩ = some (.slice A0_3 l0_3.length c0_3) := (blk_cell HKg1.out 3).trans rfl
  go_wp2_with (first | ((with_reducible refine gate_callee (f := 14) rfl ?_); refine goesL_ (some 30) rfl rfl Try.func14 (by kernel_rfl) rfl #[.agg #[.int .i64 a0_0, .int .i64 a0_1, .int .i64 a0_2, .slice A0_3 l0_3.length c0_3]] rfl (by (try simp only [List.map_toArray, List.map_cons, List.map_nil]); first | done | rfl) ?_; (with_reducible refine (laws_toCond.calls k a0_0 a0_1 a0_2 _ _ l0_3 t111 t112 t113 t114 _ ?side1 ?side2 E110.out).mono ?_); (case side1 => exact Kd.C_below HR0_3.out HB.out); (case side2 => exact HC0_3.out); rintro e w115 ⟨v_0, rfl, ho0, hb⟩; obtain ⟨Aq116, cq116, rfl⟩ := Kd.S_slice ho0; refine ⟨_, rfl, ?_⟩; obtain ⟨Lq116, Uq116, HZ117, HZ118, HOq116⟩ := Go.Proofs.YtlcmjdkbeckdnaaTree.S_made ho0 HS.out hb HB.out.size; (try clear hc106 hc107 hc108 hc109); replace HOq95 := Go.Proofs.YtlcmjdkbeckdnaaTree.S_b HOq95 hb; replace HKg1 := Go.Proofs.YtlcmjdkbeckdnaaTree.B_b HKg1 hb; replace HKg4 := Go.Proofs.YtlcmjdkbeckdnaaTree.B_b HKg4 hb; replace HKg90 := Go.Proofs.YtlcmjdkbeckdnaaTree.B_b HKg90 hb; replace HS := Go.Proofs.YtlcmjdkbeckdnaaTree.Z_b HS hb; replace HB := Go.Proofs.YtlcmjdkbeckdnaaTree.H_b HB hb; replace HS := HZ118; clear ho0; clear hb) | ((with_reducible refine gate_dst (N := 7) rfl ?_); refine box_event ?hg (N := 7) ?hd (cs := #[.int .i64 0, .int .i64 0, .int .i64 0, .slice none 0 0]) (t := 29) ?hr ?_; (case hd => rfl); (case hg => rfl); (case hr => first | (go_simp; done) | (go_simp; rfl)); intro g119 hg w120 hbox hb; have HZ121 : Aside0 (Uq116 ≤ g119 ∧ w.heap.size ≤ g119) := ⟨by rw [hg]; exact ⟨HS.out, HB.out.size⟩⟩; replace HOq95 := Go.Proofs.YtlcmjdkbeckdnaaTree.S_b HOq95 hb; replace HOq116 := Go.Proofs.YtlcmjdkbeckdnaaTree.S_b HOq116 hb; replace HKg1 := Go.Proofs.YtlcmjdkbeckdnaaTree.B_b HKg1 hb; replace HKg4 := Go.Proofs.YtlcmjdkbeckdnaaTree.B_b HKg4 hb; replace HKg90 := Go.Proofs.YtlcmjdkbeckdnaaTree.B_b HKg90 hb; replace HS := Go.Proofs.YtlcmjdkbeckdnaaTree.Z_b HS hb; replace HB := Go.Proofs.YtlcmjdkbeckdnaaTree.H_b HB hb; have HKg119 := Aside0.mk hbox; replace HS : Aside0 (g119 + 1 ≤ w120.heap.size) := ⟨blk_lt hbox⟩; clear hg hbox hb; have hc122 : w120.cell? ⟨g119, 0, none⟩ = some (.int .i64 0) := (blk_cell HKg119.out 0).trans rfl; have hf123 := blk_frozen HKg119.out 0; have hc124 : w120.cell? ⟨g119, 1, none⟩ = some (.int .i64 0) := (blk_cell HKg119.out 1).trans rfl; have hf125 := blk_frozen HKg119.out 1; have hc126 : w120.cell? ⟨g119, 2, none⟩ = some (.int .i64 0) := (blk_cell HKg119.out 2).trans rfl; have hf127 := blk_frozen HKg119.out 2; have hc128 : w120.cell? ⟨g119, 3, none⟩ = some (.slice none 0 0) := (blk_cell HKg119.out 3).trans rfl; have hf129 := blk_frozen HKg119.out 3) | ((with_reducible refine gate_store (t := 29) (p := 7) rfl ?_); refine store_event (t := 29) (p := 7) (v := ?vo_w130) (w1 := ((((w120.setCell ⟨g119, 0, none⟩ (.int .i64 t111)).setCell ⟨g119, 1, none⟩ (.int .i64 t112)).setCell ⟨g119, 2, none⟩ (.int .i64 t113)).setCell ⟨g119, 3, none⟩ (.slice Aq116 t114.length cq116))) ?hg ?ho ?hn ?hr ?_; (case ho => rfl); (case hg => rfl); (case hn => rfl); (case hr => first | (go_simp; done) | (go_simp; rfl)); intro w130 hw; (try clear hc122 hf123 hc124 hf125 hc126 hf127 hc128 hf129); have hge_ : w.heap.size ≤ g119 := (by have := HZ3.out; have := HZ6.out; have := HZ96.out; have := HZ117.out; have := HZ121.out; omega); have hk : Kept w120 w130 (fun x => x = g119) := (by rw [hw]; exact Go.Proofs.YtlcmjdkbeckdnaaTree.kept_cell (Go.Proofs.YtlcmjdkbeckdnaaTree.kept_cell (Go.Proofs.YtlcmjdkbeckdnaaTree.kept_cell (Go.Proofs.YtlcmjdkbeckdnaaTree.kept_cell (Kept.refl _ _) 0 _) 1 _) 2 _) 3 _); replace HB : Aside0 (Below w.heap.size w w130) := ⟨by rw [hw]; exact below_set (below_set (below_set (below_set (HB.out) hge_) hge_) hge_) hge_⟩; replace HKg119 : Aside0 (w130.heap[g119]? = some (.cells #[.int .i64 t111, .int .i64 t112, .int .i64 t113, .slice Aq116 t114.length cq116] 29 (0, 0))) := ⟨by rw [hw]; exact blk_put (cs := #[.int .i64 t111, .int .i64 t112, .int .i64 t113, .slice none 0 0]) (blk_put (cs := #[.int .i64 t111, .int .i64 t112, .int .i64 0, .slice none 0 0]) (blk_put (cs := #[.int .i64 t111, .int .i64 0, .int .i64 0, .slice none 0 0]) (blk_put (cs := #[.int .i64 0, .int .i64 0, .int .i64 0, .slice none 0 0]) (HKg119.out) 0 _ rfl) 1 _ rfl) 2 _ rfl) 3 _ rfl⟩; replace HOq95 := Go.Proofs.YtlcmjdkbeckdnaaTree.S_k HOq95 hk (fun x h1 h2 => (by have := HZ3.out; have := HZ6.out; have := HZ96.out; have := HZ117.out; have := HZ121.out; have h3_ : L91 ≤ x ∧ x < U92 := h1; have h4_ : x = g119 := h2; omega)); replace HOq116 := Go.Proofs.YtlcmjdkbeckdnaaTree.S_k HOq116 hk (fun x h1 h2 => (by have := HZ3.out; have := HZ6.out; have := HZ96.out; have := HZ117.out; have := HZ121.out; have h3_ : Lq116 ≤ x ∧ x < Uq116 := h1; have h4_ : x = g119 := h2; omega)); replace HKg1 := Go.Proofs.YtlcmjdkbeckdnaaTree.B_k HKg1 hk (fun h2 => (by have := HZ3.out; have := HZ6.out; have := HZ96.out; have := HZ117.out; have := HZ121.out; have h4_ : g1 = g119 := h2; omega)); replace HKg4 := Go.Proofs.YtlcmjdkbeckdnaaTree.B_k HKg4 hk (fun h2 => (by have := HZ3.out; have := HZ6.out; have := HZ96.out; have := HZ117.out; have := HZ121.out; have h4_ : g4 = g119 := h2; omega)); replace HKg90 := Go.Proofs.YtlcmjdkbeckdnaaTree.B_k HKg90 hk (fun h2 => (by have := HZ3.out; have := HZ6.out; have := HZ96.out; have := HZ117.out; have := HZ121.out; have h4_ : g90 = g119 := h2; omega)); replace HS := Go.Proofs.YtlcmjdkbeckdnaaTree.Z_k HS hk; clear hw hk hge_; have hc131 : w130.cell? ⟨g4, 0, none⟩ = some (.int .i64 a1_0) := (blk_cell HKg4.out 0).trans rfl; have hc132 : w130.cell? ⟨g4, 1, none⟩ = some (.int .i64 a1_1) := (blk_cell HKg4.out 1).trans rfl; have hc133 : w130.cell? ⟨g4, 2, none⟩ = some (.int .i64 a1_2) := (blk_cell HKg4.out 2).trans rfl; have hc134 : w130.cell? ⟨g4, 3, none⟩ = some (.slice A1_3 l1_3.length c1_3) := (blk_cell HKg4.out 3).trans rfl) | ((with_reducible refine gate_callee (f := 14) rfl ?_); refine goesL_ (some 32) rfl rfl Try.func14 (by kernel_rfl) rfl #[.agg #[.int .i64 a1_0, .int .i64 a1_1, .int .i64 a1_2, .slice A1_3 l1_3.length c1_3]] rfl (by (try simp only [List.map_toArray, List.map_cons, List.map_nil]); first | done | rfl) ?_; (with_reducible refine (laws_toCond.calls k a1_0 a1_1 a1_2 _ _ l1_3 t136 t137 t138 t139 _ ?side1 ?side2 E135.out).mono ?_); (case side1 => exact Kd.C_below HR1_3.out HB.out); (case side2 => exact HC1_3.out); rintro e w140 ⟨v_0, rfl, ho0, hb⟩; obtain ⟨Aq141, cq141, rfl⟩ := Kd.S_slice ho0; refine ⟨_, rfl, ?_⟩; obtain ⟨Lq141, Uq141, HZ142, HZ143, HOq141⟩ := Go.Proofs.YtlcmjdkbeckdnaaTree.S_made ho0 HS.out hb HB.out.size; (try clear hc131 hc132 hc133 hc134); replace HOq95 := Go.Proofs.YtlcmjdkbeckdnaaTree.S_b HOq95 hb; replace HOq116 := Go.Proofs.YtlcmjdkbeckdnaaTree.S_b HOq116 hb; replace HKg1 := Go.Proofs.YtlcmjdkbeckdnaaTree.B_b HKg1 hb; replace HKg4 := Go.Proofs.YtlcmjdkbeckdnaaTree.B_b HKg4 hb; replace HKg90 := Go.Proofs.YtlcmjdkbeckdnaaTree.B_b HKg90 hb; replace HKg119 := Go.Proofs.YtlcmjdkbeckdnaaTree.B_b HKg119 hb; replace HS := Go.Proofs.YtlcmjdkbeckdnaaTree.Z_b HS hb; replace HB := Go.Proofs.YtlcmjdkbeckdnaaTree.H_b HB hb; replace HS := HZ143; clear ho0; clear hb) | ((with_reducible refine gate_dst (N := 8) rfl ?_); refine box_event ?hg (N := 8) ?hd (cs := #[.int .i64 0, .int .i64 0, .int .i64 0, .slice none 0 0]) (t := 29) ?hr ?_; (case hd => rfl); (case hg => rfl); (case hr => first | (go_simp; done) | (go_simp; rfl)); intro g144 hg w145 hbox hb; have HZ146 : Aside0 (Uq141 ≤ g144 ∧ w.heap.size ≤ g144) := ⟨by rw [hg]; exact ⟨HS.out, HB.out.size⟩⟩; replace HOq95 := Go.Proofs.YtlcmjdkbeckdnaaTree.S_b HOq95 hb; replace HOq116 := Go.Proofs.YtlcmjdkbeckdnaaTree.S_b HOq116 hb; replace HOq141 := Go.Proofs.YtlcmjdkbeckdnaaTree.S_b HOq141 hb; replace HKg1 := Go.Proofs.YtlcmjdkbeckdnaaTree.B_b HKg1 hb; replace HKg4 := Go.Proofs.YtlcmjdkbeckdnaaTree.B_b HKg4 hb; replace HKg90 := Go.Proofs.YtlcmjdkbeckdnaaTree.B_b HKg90 hb; replace HKg119 := Go.Proofs.YtlcmjdkbeckdnaaTree.B_b HKg119 hb; replace HS := Go.Proofs.YtlcmjdkbeckdnaaTree.Z_b HS hb; replace HB := Go.Proofs.YtlcmjdkbeckdnaaTree.H_b HB hb; have HKg144 := Aside0.mk hbox; replace HS : Aside0 (g144 + 1 ≤ w145.heap.size) := ⟨blk_lt hbox⟩; clear hg hbox hb; have hc147 : w145.cell? ⟨g144, 0, none⟩ = some (.int .i64 0) := (blk_cell HKg144.out 0).trans rfl; have hf148 := blk_frozen HKg144.out 0; have hc149 : w145.cell? ⟨g144, 1, none⟩ = some (.int .i64 0) := (blk_cell HKg144.out 1).trans rfl; have hf150 := blk_frozen HKg144.out 1; have hc151 : w145.cell? ⟨g144, 2, none⟩ = some (.int .i64 0) := (blk_cell HKg144.out 2).trans rfl; have hf152 := blk_frozen HKg144.out 2; have hc153 : w145.cell? ⟨g144, 3, none⟩ = some (.slice none 0 0) := (blk_cell HKg144.out 3).trans rfl; have hf154 := blk_frozen HKg144.out 3) | ((with_reducible refine gate_store (t := 29) (p := 8) rfl ?_); refine store_event (t := 29) (p := 8) (v := ?vo_w155) (w1 := ((((w145.setCell ⟨g144, 0, none⟩ (.int .i64 t136)).setCell ⟨g144, 1, none⟩ (.int .i64 t137)).setCell ⟨g144, 2, none⟩ (.int .i64 t138)).setCell ⟨g144, 3, none⟩ (.slice Aq141 t139.length cq141))) ?hg ?ho ?hn ?hr ?_; (case ho => rfl); (case hg => rfl); (case hn => rfl); (case hr => first | (go_simp; done) | (go_simp; rfl)); intro w155 hw; (try clear hc147 hf148 hc149 hf150 hc151 hf152 hc153 hf154); have hge_ : w.heap.size ≤ g144 := (by have := HZ3.out; have := HZ6.out; have := HZ96.out; have := HZ117.out; have := HZ121.out; have := HZ142.out; have := HZ146.out; omega); have hk : Kept w145 w155 (fun x => x = g144) := (by rw [hw]; exact Go.Proofs.YtlcmjdkbeckdnaaTree.kept_cell (Go.Proofs.YtlcmjdkbeckdnaaTree.kept_cell (Go.Proofs.YtlcmjdkbeckdnaaTree.kept_cell (Go.Proofs.YtlcmjdkbeckdnaaTree.kept_cell (Kept.refl _ _) 0 _) 1 _) 2 _) 3 _); replace HB : Aside0 (Below w.heap.size w w155) := ⟨by rw [hw]; exact below_set (below_set (below_set (below_set (HB.out) hge_) hge_) hge_) hge_⟩; replace HKg144 : Aside0 (w155.heap[g144]? = some (.cells #[.int .i64 t136, .int .i64 t137, .int .i64 t138, .slice Aq141 t139.length cq141] 29 (0, 0))) := ⟨by rw [hw]; exact blk_put (cs := #[.int .i64 t136, .int .i64 t137, .int .i64 t138, .slice none 0 0]) (blk_put (cs := #[.int .i64 t136, .int .i64 t137, .int .i64 0, .slice none 0 0]) (blk_put (cs := #[.int .i64 t136, .int .i64 0, .int .i64 0, .slice none 0 0]) (blk_put (cs := #[.int .i64 0, .int .i64 0, .int .i64 0, .slice none 0 0]) (HKg144.out) 0 _ rfl) 1 _ rfl) 2 _ rfl) 3 _ rfl⟩; replace HOq95 := Go.Proofs.YtlcmjdkbeckdnaaTree.S_k HOq95 hk (fun x h1 h2 => (by have := HZ3.out; have := HZ6.out; have := HZ96.out; have := HZ117.out; have := HZ121.out; have := HZ142.out; have := HZ146.out; have h3_ : L91 ≤ x ∧ x < U92 := h1; have h4_ : x = g144 := h2; omega)); replace HOq116 := Go.Proofs.YtlcmjdkbeckdnaaTree.S_k HOq116 hk (fun x h1 h2 => (by have := HZ3.out; have := HZ6.out; have := HZ96.out; have := HZ117.out; have := HZ121.out; have := HZ142.out; have := HZ146.out; have h3_ : Lq116 ≤ x ∧ x < Uq116 := h1; have h4_ : x = g144 := h2; omega)); replace HOq141 := Go.Proofs.YtlcmjdkbeckdnaaTree.S_k HOq141 hk (fun x h1 h2 => (by have := HZ3.out; have := HZ6.out; have := HZ96.out; have := HZ117.out; have := HZ121.out; have := HZ142.out; have := HZ146.out; have h3_ : Lq141 ≤ x ∧ x < Uq141 := h1; have h4_ : x = g144 := h2; omega)); replace HKg1 := Go.Proofs.YtlcmjdkbeckdnaaTree.B_k HKg1 hk (fun h2 => (by have := HZ3.out; have := HZ6.out; have := HZ96.out; have := HZ117.out; have := HZ121.out; have := HZ142.out; have := HZ146.out; have h4_ : g1 = g144 := h2; omega)); replace HKg4 := Go.Proofs.YtlcmjdkbeckdnaaTree.B_k HKg4 hk (fun h2 => (by have := HZ3.out; have := HZ6.out; have := HZ96.out; have := HZ117.out; have := HZ121.out; have := HZ142.out; have := HZ146.out; have h4_ : g4 = g144 := h2; omega)); replace HKg90 := Go.Proofs.YtlcmjdkbeckdnaaTree.B_k HKg90 hk (fun h2 => (by have := HZ3.out; have := HZ6.out; have := HZ96.out; have := HZ117.out; have := HZ121.out; have := HZ142.out; have := HZ146.out; have h4_ : g90 = g144 := h2; omega)); replace HKg119 := Go.Proofs.YtlcmjdkbeckdnaaTree.B_k HKg119 hk (fun h2 => (by have := HZ3.out; have := HZ6.out; have := HZ96.out; have := HZ117.out; have := HZ121.out; have := HZ142.out; have := HZ146.out; have h4_ : g119 = g144 := h2; omega)); replace HS := Go.Proofs.YtlcmjdkbeckdnaaTree.Z_k HS hk; clear hw hk hge_; have hc156 : w155.cell? ⟨g119, 0, none⟩ = some (.int .i64 t111) := (blk_cell HKg119.out 0).trans rfl; have hc157 : w155.cell? ⟨g119, 1, none⟩ = some (.int .i64 t112) := (blk_cell HKg119.out 1).trans rfl; have hc158 : w155.cell? ⟨g119, 2, none⟩ = some (.int .i64 t113) := (blk_cell HKg119.out 2).trans rfl; have hc159 : w155.cell? ⟨g119, 3, none⟩ = some (.slice Aq116 t114.length cq116) := (blk_cell HKg119.out 3).trans rfl; have hc160 : w155.cell? ⟨g144, 0, none⟩ = some (.int .i64 t136) := (blk_cell HKg144.out 0).trans rfl; have hc161 : w155.cell? ⟨g144, 1, none⟩ = some (.int .i64 t137) := (blk_cell HKg144.out 1).trans rfl; have hc162 : w155.cell? ⟨g144, 2, none⟩ = some (.int .i64 t138) := (blk_cell HKg144.out 2).trans rfl; have hc163 : w155.cell? ⟨g144, 3, none⟩ = some (.slice Aq141 t139.length cq141) := (blk_cell HKg144.out 3).trans rfl) | ((with_reducible refine gate_callee (f := 26) rfl ?_); refine goesL_ (some 35) rfl rfl Try.func26 (by kernel_rfl) rfl #[.agg #[.int .i64 t111, .int .i64 t112, .int .i64 t113, .slice Aq116 t114.length cq116], .agg #[.int .i64 t136, .int .i64 t137, .int .i64 t138, .slice Aq141 t139.length cq141]] rfl (by (try simp only [List.map_toArray, List.map_cons, List.map_nil]); first | done | rfl) ?_; (with_reducible refine (impl_CondOr.calls k t111 t112 t113 _ _ t114 t136 t137 t138 _ _ t139 t165 t166 t167 t168 _ ?side1 ?side2 ?side3 ?side4 E164.out).mono ?_); (case side1 => exact (Kd.S_reads' HOq116.out).2.2); (case side2 => exact (Kd.S_reads' HOq116.out).2.1); (case side3 => exact (Kd.S_reads' HOq141.out).2.2); (case side4 => exact (Kd.S_reads' HOq141.out).2.1); rintro e w169 ⟨v_0, rfl, ho0, hb⟩; obtain ⟨Aq170, cq170, rfl⟩ := Kd.S_slice ho0; refine ⟨_, rfl, ?_⟩; obtain ⟨Lq170, Uq170, HZ171, HZ172, HOq170⟩ := Go.Proofs.YtlcmjdkbeckdnaaTree.S_made ho0 HS.out hb HB.out.size; (try clear hc156 hc157 hc158 hc159 hc160 hc161 hc162 hc163); replace HOq95 := Go.Proofs.YtlcmjdkbeckdnaaTree.S_b HOq95 hb; replace HOq116 := Go.Proofs.YtlcmjdkbeckdnaaTree.S_b HOq116 hb; replace HOq141 := Go.Proofs.YtlcmjdkbeckdnaaTree.S_b HOq141 hb; replace HKg1 := Go.Proofs.YtlcmjdkbeckdnaaTree.B_b HKg1 hb; replace HKg4 := Go.Proofs.YtlcmjdkbeckdnaaTree.B_b HKg4 hb; replace HKg90 := Go.Proofs.YtlcmjdkbeckdnaaTree.B_b HKg90 hb; replace HKg119 := Go.Proofs.YtlcmjdkbeckdnaaTree.B_b HKg119 hb; replace HKg144 := Go.Proofs.YtlcmjdkbeckdnaaTree.B_b HKg144 hb; replace HS := Go.Proofs.YtlcmjdkbeckdnaaTree.Z_b HS hb; replace HB := Go.Proofs.YtlcmjdkbeckdnaaTree.H_b HB hb; replace HS := HZ172; clear ho0; clear hb) | ((with_reducible refine gate_dst (N := 9) rfl ?_); refine box_event ?hg (N := 9) ?hd (cs := #[.int .i64 0, .int .i64 0, .int .i64 0, .slice none 0 0]) (t := 29) ?hr ?_; (case hd => rfl); (case hg => rfl); (case hr => first | (go_simp; done) | (go_simp; rfl)); intro g173 hg w174 hbox hb; have HZ175 : Aside0 (Uq170 ≤ g173 ∧ w.heap.size ≤ g173) := ⟨by rw [hg]; exact ⟨HS.out, HB.out.size⟩⟩; replace HOq95 := Go.Proofs.YtlcmjdkbeckdnaaTree.S_b HOq95 hb; replace HOq116 := Go.Proofs.YtlcmjdkbeckdnaaTree.S_b HOq116 hb; replace HOq141 := Go.Proofs.YtlcmjdkbeckdnaaTree.S_b HOq141 hb; replace HOq170 := Go.Proofs.YtlcmjdkbeckdnaaTree.S_b HOq170 hb; replace HKg1 := Go.Proofs.YtlcmjdkbeckdnaaTree.B_b HKg1 hb; replace HKg4 := Go.Proofs.YtlcmjdkbeckdnaaTree.B_b HKg4 hb; replace HKg90 := Go.Proofs.YtlcmjdkbeckdnaaTree.B_b HKg90 hb; replace HKg119 := Go.Proofs.YtlcmjdkbeckdnaaTree.B_b HKg119 hb; replace HKg144 := Go.Proofs.YtlcmjdkbeckdnaaTree.B_b HKg144 hb; replace HS := Go.Proofs.YtlcmjdkbeckdnaaTree.Z_b HS hb; replace HB := Go.Proofs.YtlcmjdkbeckdnaaTree.H_b HB hb; have HKg173 := Aside0.mk hbox; replace HS : Aside0 (g173 + 1 ≤ w174.heap.size) := ⟨blk_lt hbox⟩; clear hg hbox hb; have hc176 : w174.cell? ⟨g173, 0, none⟩ = some (.int .i64 0) := (blk_cell HKg173.out 0).trans rfl; have hf177 := blk_frozen HKg173.out 0; have hc178 : w174.cell? ⟨g173, 1, none⟩ = some (.int .i64 0) := (blk_cell HKg173.out 1).trans rfl; have hf179 := blk_frozen HKg173.out 1; have hc180 : w174.cell? ⟨g173, 2, none⟩ = some (.int .i64 0) := (blk_cell HKg173.out 2).trans rfl; have hf181 := blk_frozen HKg173.out 2; have hc182 : w174.cell? ⟨g173, 3, none⟩ = some (.slice none 0 0) := (blk_cell HKg173.out 3).trans rfl; have hf183 := blk_frozen HKg173.out 3) | ((with_reducible refine gate_store (t := 29) (p := 9) rfl ?_); refine store_event (t := 29) (p := 9) (v := ?vo_w184) (w1 := ((((w174.setCell ⟨g173, 0, none⟩ (.int .i64 t165)).setCell ⟨g173, 1, none⟩ (.int .i64 t166)).setCell ⟨g173, 2, none⟩ (.int .i64 t167)).setCell ⟨g173, 3, none⟩ (.slice Aq170 t168.length cq170))) ?hg ?ho ?hn ?hr ?_; (case ho => rfl); (case hg => rfl); (case hn => rfl); (case hr => first | (go_simp; done) | (go_simp; rfl)); intro w184 hw; (try clear hc176 hf177 hc178 hf179 hc180 hf181 hc182 hf183); have hge_ : w.heap.size ≤ g173 := (by have := HZ3.out; have := HZ6.out; have := HZ96.out; have := HZ117.out; have := HZ121.out; have := HZ142.out; have := HZ146.out; have := HZ171.out; have := HZ175.out; omega); have hk : Kept w174 w184 (fun x => x = g173) := (by rw [hw]; exact Go.Proofs.YtlcmjdkbeckdnaaTree.kept_cell (Go.Proofs.YtlcmjdkbeckdnaaTree.kept_cell (Go.Proofs.YtlcmjdkbeckdnaaTree.kept_cell (Go.Proofs.YtlcmjdkbeckdnaaTree.kept_cell (Kept.refl _ _) 0 _) 1 _) 2 _) 3 _); replace HB : Aside0 (Below w.heap.size w w184) := ⟨by rw [hw]; exact below_set (below_set (below_set (below_set (HB.out) hge_) hge_) hge_) hge_⟩; replace HKg173 : Aside0 (w184.heap[g173]? = some (.cells #[.int .i64 t165, .int .i64 t166, .int .i64 t167, .slice Aq170 t168.length cq170] 29 (0, 0))) := ⟨by rw [hw]; exact blk_put (cs := #[.int .i64 t165, .int .i64 t166, .int .i64 t167, .slice none 0 0]) (blk_put (cs := #[.int .i64 t165, .int .i64 t166, .int .i64 0, .slice none 0 0]) (blk_put (cs := #[.int .i64 t165, .int .i64 0, .int .i64 0, .slice none 0 0]) (blk_put (cs := #[.int .i64 0, .int .i64 0, .int .i64 0, .slice none 0 0]) (HKg173.out) 0 _ rfl) 1 _ rfl) 2 _ rfl) 3 _ rfl⟩; replace HOq95 := Go.Proofs.YtlcmjdkbeckdnaaTree.S_k HOq95 hk (fun x h1 h2 => (by have := HZ3.out; have := HZ6.out; have := HZ96.out; have := HZ117.out; have := HZ121.out; have := HZ142.out; have := HZ146.out; have := HZ171.out; have := HZ175.out; have h3_ : L91 ≤ x ∧ x < U92 := h1; have h4_ : x = g173 := h2; omega)); replace HOq116 := Go.Proofs.YtlcmjdkbeckdnaaTree.S_k HOq116 hk (fun x h1 h2 => (by have := HZ3.out; have := HZ6.out; have := HZ96.out; have := HZ117.out; have := HZ121.out; have := HZ142.out; have := HZ146.out; have := HZ171.out; have := HZ175.out; have h3_ : Lq116 ≤ x ∧ x < Uq116 := h1; have h4_ : x = g173 := h2; omega)); replace HOq141 := Go.Proofs.YtlcmjdkbeckdnaaTree.S_k HOq141 hk (fun x h1 h2 => (by have := HZ3.out; have := HZ6.out; have := HZ96.out; have := HZ117.out; have := HZ121.out; have := HZ142.out; have := HZ146.out; have := HZ171.out; have := HZ175.out; have h3_ : Lq141 ≤ x ∧ x < Uq141 := h1; have h4_ : x = g173 := h2; omega)); replace HOq170 := Go.Proofs.YtlcmjdkbeckdnaaTree.S_k HOq170 hk (fun x h1 h2 => (by have := HZ3.out; have := HZ6.out; have := HZ96.out; have := HZ117.out; have := HZ121.out; have := HZ142.out; have := HZ146.out; have := HZ171.out; have := HZ175.out; have h3_ : Lq170 ≤ x ∧ x < Uq170 := h1; have h4_ : x = g173 := h2; omega)); replace HKg1 := Go.Proofs.YtlcmjdkbeckdnaaTree.B_k HKg1 hk (fun h2 => (by have := HZ3.out; have := HZ6.out; have := HZ96.out; have := HZ117.out; have := HZ121.out; have := HZ142.out; have := HZ146.out; have := HZ171.out; have := HZ175.out; have h4_ : g1 = g173 := h2; omega)); replace HKg4 := Go.Proofs.YtlcmjdkbeckdnaaTree.B_k HKg4 hk (fun h2 => (by have := HZ3.out; have := HZ6.out; have := HZ96.out; have := HZ117.out; have := HZ121.out; have := HZ142.out; have := HZ146.out; have := HZ171.out; have := HZ175.out; have h4_ : g4 = g173 := h2; omega)); replace HKg90 := Go.Proofs.YtlcmjdkbeckdnaaTree.B_k HKg90 hk (fun h2 => (by have := HZ3.out; have := HZ6.out; have := HZ96.out; have := HZ117.out; have := HZ121.out; have := HZ142.out; have := HZ146.out; have := HZ171.out; have := HZ175.out; have h4_ : g90 = g173 := h2; omega)); replace HKg119 := Go.Proofs.YtlcmjdkbeckdnaaTree.B_k HKg119 hk (fun h2 => (by have := HZ3.out; have := HZ6.out; have := HZ96.out; have := HZ117.out; have := HZ121.out; have := HZ142.out; have := HZ146.out; have := HZ171.out; have := HZ175.out; have h4_ : g119 = g173 := h2; omega)); replace HKg144 := Go.Proofs.YtlcmjdkbeckdnaaTree.B_k HKg144 hk (fun h2 => (by have := HZ3.out; have := HZ6.out; have := HZ96.out; have := HZ117.out; have := HZ121.out; have := HZ142.out; have := HZ146.out; have := HZ171.out; have := HZ175.out; have h4_ : g144 = g173 := h2; omega)); replace HS := Go.Proofs.YtlcmjdkbeckdnaaTree.Z_k HS hk; clear hw hk hge_; have hc185 : w184.cell? ⟨g173, 0, none⟩ = some (.int .i64 t165) := (blk_cell HKg173.out 0).trans rfl; have hc186 : w184.cell? ⟨g173, 1, none⟩ = some (.int .i64 t166) := (blk_cell HKg173.out 1).trans rfl; have hc187 : w184.cell? ⟨g173, 2, none⟩ = some (.int .i64 t167) := (blk_cell HKg173.out 2).trans rfl; have hc188 : w184.cell? ⟨g173, 3, none⟩ = some (.slice Aq170 t168.length cq170) := (blk_cell HKg173.out 3).trans rfl; have hc189 : w184.cell? ⟨g90, 0, none⟩ = some (.int .i64 t35) := (blk_cell HKg90.out 0).trans rfl; have hc190 : w184.cell? ⟨g90, 1, none⟩ = some (.int .i64 t36) := (blk_cell HKg90.out 1).trans rfl; have hc191 : w184.cell? ⟨g90, 2, none⟩ = some (.int .i64 t37) := (blk_cell HKg90.out 2).trans rfl; have hc192 : w184.cell? ⟨g90, 3, none⟩ = some (.slice Aq95 t38.length cq95) := (blk_cell HKg90.out 3).trans rfl) | ((with_reducible refine gate_callee (f := 16) rfl ?_); refine goesL_ (some 38) rfl rfl Try.func16 (by kernel_rfl) rfl #[.agg #[.int .i64 t165, .int .i64 t166, .int .i64 t167, .slice Aq170 t168.length cq170], .agg #[.int .i64 t35, .int .i64 t36, .int .i64 t37, .slice Aq95 t38.length cq95]] rfl (by (try simp only [List.map_toArray, List.map_cons, List.map_nil]); first | done | rfl) ?_; (with_reducible refine (laws_eqCond.calls k t165 t166 t167 _ _ t168 t35 t36 t37 _ _ t38 true _ ?side1 ?side2 ?side3 ?side4 E193.out).mono ?_); (case side1 => exact (Kd.S_reads' HOq170.out).2.2); (case side2 => exact (Kd.S_reads' HOq170.out).2.1); (case side3 => exact (Kd.S_reads' HOq95.out).2.2); (case side4 => exact (Kd.S_reads' HOq95.out).2.1); rintro e w195 ⟨rfl, hb⟩; refine ⟨_, rfl, ?_⟩; (try clear hc185 hc186 hc187 hc188 hc189 hc190 hc191 hc192); replace HOq95 := Go.Proofs.YtlcmjdkbeckdnaaTree.S_b HOq95 hb; replace HOq116 := Go.Proofs.YtlcmjdkbeckdnaaTree.S_b HOq116 hb; replace HOq141 := Go.Proofs.YtlcmjdkbeckdnaaTree.S_b HOq141 hb; replace HOq170 := Go.Proofs.YtlcmjdkbeckdnaaTree.S_b HOq170 hb; replace HKg1 := Go.Proofs.YtlcmjdkbeckdnaaTree.B_b HKg1 hb; replace HKg4 := Go.Proofs.YtlcmjdkbeckdnaaTree.B_b HKg4 hb; replace HKg90 := Go.Proofs.YtlcmjdkbeckdnaaTree.B_b HKg90 hb; replace HKg119 := Go.Proofs.YtlcmjdkbeckdnaaTree.B_b HKg119 hb; replace HKg144 := Go.Proofs.YtlcmjdkbeckdnaaTree.B_b HKg144 hb; replace HKg173 := Go.Proofs.YtlcmjdkbeckdnaaTree.B_b HKg173 hb; replace HS := Go.Proofs.YtlcmjdkbeckdnaaTree.Z_b HS hb; replace HB := Go.Proofs.YtlcmjdkbeckdnaaTree.H_b HB hb; clear hb))
  have hb := below_drew (Below.refl w195.heap.size w195)
  replace HOq95 := Go.Proofs.YtlcmjdkbeckdnaaTree.S_b HOq95 hb
  replace HOq116 := Go.Proofs.YtlcmjdkbeckdnaaTree.S_b HOq116 hb
  replace HOq141 := Go.Proofs.YtlcmjdkbeckdnaaTree.S_b HOq141 hb
  replace HOq170 := Go.Proofs.YtlcmjdkbeckdnaaTree.S_b HOq170 hb
  replace HKg1 := Go.Proofs.YtlcmjdkbeckdnaaTree.B_b HKg1 hb
  replace HKg4 := Go.Proofs.YtlcmjdkbeckdnaaTree.B_b HKg4 hb
  replace HKg90 := Go.Proofs.YtlcmjdkbeckdnaaTree.B_b HKg90 hb
  replace HKg119 := Go.Proofs.YtlcmjdkbeckdnaaTree.B_b HKg119 hb
  replace HKg144 := Go.Proofs.YtlcmjdkbeckdnaaTree.B_b HKg144 hb
  replace HKg173 := Go.Proofs.YtlcmjdkbeckdnaaTree.B_b HKg173 hb
  replace HS := Go.Proofs.YtlcmjdkbeckdnaaTree.Z_b HS hb
  replace HB := Go.Proofs.YtlcmjdkbeckdnaaTree.H_b HB hb
  clear hb
  refine start_ (n := 5) (S := fun w' => w'.cell? ⟨g119, 0, none⟩ = some (.int .i64 t111) ∧ w'.cell? ⟨g119, 1, none⟩ = some (.int .i64 t112) ∧ w'.cell? ⟨g119, 2, none⟩ = some (.int .i64 t113) ∧ w'.cell? ⟨g119, 3, none⟩ = some (.slice Aq116 t114.length cq116) ∧ w'.cell? ⟨g1, 0, none⟩ = some (.int .i64 a0_0) ∧ w'.cell? ⟨g1, 1, none⟩ = some (.int .i64 a0_1) ∧ w'.cell? ⟨g1, 2, none⟩ = some (.int .i64 a0_2) ∧ w'.cell? ⟨g1, 3, none⟩ = some (.slice A0_3 l0_3.length c0_3)) (ds := []) #[false, false, false, false, false] (by kernel_rfl) rfl rfl ⟨(blk_cell HKg119.out 0).trans rfl, (blk_cell HKg119.out 1).trans rfl, (blk_cell HKg119.out 2).trans rfl, (blk_cell HKg119.out 3).trans rfl, (blk_cell HKg1.out 0).trans rfl, (blk_cell HKg1.out 1).trans rfl, (blk_cell HKg1.out 2).trans rfl, (blk_cell HKg1.out 3).trans rfl⟩ (fun hHeld => ?_)
  generalize w195.drew = w197 at HOq95 HOq116 HOq141 HOq170 HKg1 HKg4 HKg90 HKg119 HKg144 HKg173 HB HS hHeld ⊢
  refine take_ (i := 0) (N := some 40) (v := ?_) (a' := ?_) #[true, false, false, false, false] rfl rfl (by kernel_rfl) (fun _ _ _ h => h) (Or.inl ⟨by rfl, ?_⟩) hHeld ?_ ?_
  rotate_left
  · rintro w' ⟨s0, s1, s2, s3, s4, s5, s6, s7⟩
    go_simp
    with_reducible rfl
  rotate_left
  · simp only [Act.put, List.setIfInBounds_toArray, List.set_cons_zero, List.set_cons_succ, i64_w, i32_w]
    rfl
  refine take_ (i := 1) (N := some 41) (v := ?_) (a' := ?_) #[true, true, false, false, false] rfl rfl (by kernel_rfl) (fun _ _ _ h => h) (Or.inl ⟨by rfl, ?_⟩) hHeld ?_ ?_
  rotate_left
  · rintro w' ⟨s0, s1, s2, s3, s4, s5, s6, s7⟩
    go_simp
    with_reducible rfl
  rotate_left
  · simp only [Act.put, List.setIfInBounds_toArray, List.set_cons_zero, List.set_cons_succ, i64_w, i32_w]
    rfl
  refine one_ (i := 2) (N := some 42) #[true, true, true, false, false] rfl rfl (by kernel_rfl) (by decide) (fun K hK => ?_)
  refine goes_ Try.func14 (by kernel_rfl) rfl #[.agg #[.int .i64 a0_0, .int .i64 a0_1, .int .i64 a0_2, .slice A0_3 l0_3.length c0_3]] (by rfl) rfl rfl (by (try simp only [List.map_toArray, List.map_cons, List.map_nil]); first | done | rfl) ?_
  with_reducible refine (laws_toCond.calls k a0_0 a0_1 a0_2 _ _ l0_3 t199 t200 t201 t202 _ ?side1 ?side2 E198.out).mono ?_
  (case side1 => exact Kd.C_below HR0_3.out HB.out)
  (case side2 => exact HC0_3.out)
  rintro e w203 ⟨v_0, rfl, ho0, hb⟩
  obtain ⟨Aq204, cq204, rfl⟩ := Kd.S_slice ho0
  refine ⟨_, rfl, ?_⟩
  obtain ⟨Lq204, Uq204, HZ205, HZ206, HOq204⟩ := Go.Proofs.YtlcmjdkbeckdnaaTree.S_made ho0 HS.out hb HB.out.size
  replace HOq95 := Go.Proofs.YtlcmjdkbeckdnaaTree.S_b HOq95 hb
  replace HOq116 := Go.Proofs.YtlcmjdkbeckdnaaTree.S_b HOq116 hb
  replace HOq141 := Go.Proofs.YtlcmjdkbeckdnaaTree.S_b HOq141 hb
  replace HOq170 := Go.Proofs.YtlcmjdkbeckdnaaTree.S_b HOq170 hb
  replace HKg1 := Go.Proofs.YtlcmjdkbeckdnaaTree.B_b HKg1 hb
  replace HKg4 := Go.Proofs.YtlcmjdkbeckdnaaTree.B_b HKg4 hb
  replace HKg90 := Go.Proofs.YtlcmjdkbeckdnaaTree.B_b HKg90 hb
  replace HKg119 := Go.Proofs.YtlcmjdkbeckdnaaTree.B_b HKg119 hb
  replace HKg144 := Go.Proofs.YtlcmjdkbeckdnaaTree.B_b HKg144 hb
  replace HKg173 := Go.Proofs.YtlcmjdkbeckdnaaTree.B_b HKg173 hb
  replace HS := Go.Proofs.YtlcmjdkbeckdnaaTree.Z_b HS hb
  replace HB := Go.Proofs.YtlcmjdkbeckdnaaTree.H_b HB hb
  replace HS := HZ206
  clear ho0
  clear hb
  refine hK.out _ _ ⟨(blk_cell HKg119.out 0).trans rfl, (blk_cell HKg119.out 1).trans rfl, (blk_cell HKg119.out 2).trans rfl, (blk_cell HKg119.out 3).trans rfl, (blk_cell HKg1.out 0).trans rfl, (blk_cell HKg1.out 1).trans rfl, (blk_cell HKg1.out 2).trans rfl, (blk_cell HKg1.out 3).trans rfl⟩ (fun hHeld => ?_)
  clear hK K
  refine norm_ (a' := ?_) ?_ ?_
  rotate_left
  · show Act.put _ (some 42) _ = _
    simp only [Act.put, List.setIfInBounds_toArray, List.set_cons_zero, List.set_cons_succ, i64_w, i32_w]
    rfl
  refine one_ (i := 3) (N := some 43) #[true, true, true, true, false] rfl rfl (by kernel_rfl) (by decide) (fun K hK => ?_)
  refine goes_ Try.func16 (by kernel_rfl) rfl #[.agg #[.int .i64 t111, .int .i64 t112, .int .i64 t113, .slice Aq116 t114.length cq116], .agg #[.int .i64 t199, .int .i64 t200, .int .i64 t201, .slice Aq204 t202.length cq204]] (by rfl) rfl rfl (by (try simp only [List.map_toArray, List.map_cons, List.map_nil]); first | done | rfl) ?_
  with_reducible refine (laws_eqCond.calls k t111 t112 t113 _ _ t114 t199 t200 t201 _ _ t202 true _ ?side1 ?side2 ?side3 ?side4 E207.out).mono ?_
  (case side1 => exact (Kd.S_reads' HOq116.out).2.2)
  (case side2 => exact (Kd.S_reads' HOq116.out).2.1)
  (case side3 => exact (Kd.S_reads' HOq204.out).2.2)
  (case side4 => exact (Kd.S_reads' HOq204.out).2.1)
  rintro e w209 ⟨rfl, hb⟩
  refine ⟨_, rfl, ?_⟩
  replace HOq95 := Go.Proofs.YtlcmjdkbeckdnaaTree.S_b HOq95 hb
  replace HOq116 := Go.Proofs.YtlcmjdkbeckdnaaTree.S_b HOq116 hb
  replace HOq141 := Go.Proofs.YtlcmjdkbeckdnaaTree.S_b HOq141 hb
  replace HOq170 := Go.Proofs.YtlcmjdkbeckdnaaTree.S_b HOq170 hb
  replace HOq204 := Go.Proofs.YtlcmjdkbeckdnaaTree.S_b HOq204 hb
  replace HKg1 := Go.Proofs.YtlcmjdkbeckdnaaTree.B_b HKg1 hb
  replace HKg4 := Go.Proofs.YtlcmjdkbeckdnaaTree.B_b HKg4 hb
  replace HKg90 := Go.Proofs.YtlcmjdkbeckdnaaTree.B_b HKg90 hb
  replace HKg119 := Go.Proofs.YtlcmjdkbeckdnaaTree.B_b HKg119 hb
  replace HKg144 := Go.Proofs.YtlcmjdkbeckdnaaTree.B_b HKg144 hb
  replace HKg173 := Go.Proofs.YtlcmjdkbeckdnaaTree.B_b HKg173 hb
  replace HS := Go.Proofs.YtlcmjdkbeckdnaaTree.Z_b HS hb
  replace HB := Go.Proofs.YtlcmjdkbeckdnaaTree.H_b HB hb
  clear hb
  refine hK.out _ _ ⟨(blk_cell HKg119.out 0).trans rfl, (blk_cell HKg119.out 1).trans rfl, (blk_cell HKg119.out 2).trans rfl, (blk_cell HKg119.out 3).trans rfl, (blk_cell HKg1.out 0).trans rfl, (blk_cell HKg1.out 1).trans rfl, (blk_cell HKg1.out 2).trans rfl, (blk_cell HKg1.out 3).trans rfl⟩ (fun hHeld => ?_)
  clear hK K
  refine norm_ (a' := ?_) ?_ ?_
  rotate_left
  · show Act.put _ (some 43) _ = _
    simp only [Act.put, List.setIfInBounds_toArray, List.set_cons_zero, List.set_cons_succ, i64_w, i32_w]
    rfl
  refine pure_ (i := 4) (N := some 44) (v := ?_) (a' := ?_) #[true, true, true, true, true] rfl rfl (by kernel_rfl) (fun _ _ _ h => h) (Or.inl ⟨by rfl, ?_⟩) ?_ ?_
  rotate_left
  · intro w'
    go_simp
    with_reducible rfl
  rotate_left
  · simp only [Act.put, List.setIfInBounds_toArray, List.set_cons_zero, List.set_cons_succ, i64_w, i32_w]
    rfl
  refine done_ (by kernel_rfl) ?_
  try go_wp2
  have hb := below_drew (Below.refl w209.heap.size w209)
  replace HOq95 := Go.Proofs.YtlcmjdkbeckdnaaTree.S_b HOq95 hb
  replace HOq116 := Go.Proofs.YtlcmjdkbeckdnaaTree.S_b HOq116 hb
  replace HOq141 := Go.Proofs.YtlcmjdkbeckdnaaTree.S_b HOq141 hb
  replace HOq170 := Go.Proofs.YtlcmjdkbeckdnaaTree.S_b HOq170 hb
  replace HOq204 := Go.Proofs.YtlcmjdkbeckdnaaTree.S_b HOq204 hb
  replace HKg1 := Go.Proofs.YtlcmjdkbeckdnaaTree.B_b HKg1 hb
  replace HKg4 := Go.Proofs.YtlcmjdkbeckdnaaTree.B_b HKg4 hb
  replace HKg90 := Go.Proofs.YtlcmjdkbeckdnaaTree.B_b HKg90 hb
  replace HKg119 := Go.Proofs.YtlcmjdkbeckdnaaTree.B_b HKg119 hb
  replace HKg144 := Go.Proofs.YtlcmjdkbeckdnaaTree.B_b HKg144 hb
  replace HKg173 := Go.Proofs.YtlcmjdkbeckdnaaTree.B_b HKg173 hb
  replace HS := Go.Proofs.YtlcmjdkbeckdnaaTree.Z_b HS hb
  replace HB := Go.Proofs.YtlcmjdkbeckdnaaTree.H_b HB hb
  clear hb
  refine start_ (n := 5) (S := fun w' => w'.cell? ⟨g144, 0, none⟩ = some (.int .i64 t136) ∧ w'.cell? ⟨g144, 1, none⟩ = some (.int .i64 t137) ∧ w'.cell? ⟨g144, 2, none⟩ = some (.int .i64 t138) ∧ w'.cell? ⟨g144, 3, none⟩ = some (.slice Aq141 t139.length cq141) ∧ w'.cell? ⟨g4, 0, none⟩ = some (.int .i64 a1_0) ∧ w'.cell? ⟨g4, 1, none⟩ = some (.int .i64 a1_1) ∧ w'.cell? ⟨g4, 2, none⟩ = some (.int .i64 a1_2) ∧ w'.cell? ⟨g4, 3, none⟩ = some (.slice A1_3 l1_3.length c1_3)) (ds := []) #[false, false, false, false, false] (by kernel_rfl) rfl rfl ⟨(blk_cell HKg144.out 0).trans rfl, (blk_cell HKg144.out 1).trans rfl, (blk_cell HKg144.out 2).trans rfl, (blk_cell HKg144.out 3).trans rfl, (blk_cell HKg4.out 0).trans rfl, (blk_cell HKg4.out 1).trans rfl, (blk_cell HKg4.out 2).trans rfl, (blk_cell HKg4.out 3).trans rfl⟩ (fun hHeld => ?_)
  generalize w209.drew = w211 at HOq95 HOq116 HOq141 HOq170 HOq204 HKg1 HKg4 HKg90 HKg119 HKg144 HKg173 HB HS hHeld ⊢
  refine take_ (i := 0) (N := some 45) (v := ?_) (a' := ?_) #[true, false, false, false, false] rfl rfl (by kernel_rfl) (fun _ _ _ h => h) (Or.inl ⟨by rfl, ?_⟩) hHeld ?_ ?_
  rotate_left
  · rintro w' ⟨s0, s1, s2, s3, s4, s5, s6, s7⟩
    go_simp
    with_reducible rfl
  rotate_left
  · simp only [Act.put, List.setIfInBounds_toArray, List.set_cons_zero, List.set_cons_succ, i64_w, i32_w]
    rfl
  refine take_ (i := 1) (N := some 46) (v := ?_) (a' := ?_) #[true, true, false, false, false] rfl rfl (by kernel_rfl) (fun _ _ _ h => h) (Or.inl ⟨by rfl, ?_⟩) hHeld ?_ ?_
  rotate_left
  · rintro w' ⟨s0, s1, s2, s3, s4, s5, s6, s7⟩
    go_simp
    with_reducible rfl
  rotate_left
  · simp only [Act.put, List.setIfInBounds_toArray, List.set_cons_zero, List.set_cons_succ, i64_w, i32_w]
    rfl
  refine one_ (i := 2) (N := some 47) #[true, true, true, false, false] rfl rfl (by kernel_rfl) (by decide) (fun K hK => ?_)
  refine goes_ Try.func14 (by kernel_rfl) rfl #[.agg #[.int .i64 a1_0, .int .i64 a1_1, .int .i64 a1_2, .slice A1_3 l1_3.length c1_3]] (by rfl) rfl rfl (by (try simp only [List.map_toArray, List.map_cons, List.map_nil]); first | done | rfl) ?_
  with_reducible refine (laws_toCond.calls k a1_0 a1_1 a1_2 _ _ l1_3 t213 t214 t215 t216 _ ?side1 ?side2 E212.out).mono ?_
  (case side1 => exact Kd.C_below HR1_3.out HB.out)
  (case side2 => exact HC1_3.out)
  rintro e w217 ⟨v_0, rfl, ho0, hb⟩
  obtain ⟨Aq218, cq218, rfl⟩ := Kd.S_slice ho0
  refine ⟨_, rfl, ?_⟩
  obtain ⟨Lq218, Uq218, HZ219, HZ220, HOq218⟩ := Go.Proofs.YtlcmjdkbeckdnaaTree.S_made ho0 HS.out hb HB.out.size
  replace HOq95 := Go.Proofs.YtlcmjdkbeckdnaaTree.S_b HOq95 hb
  replace HOq116 := Go.Proofs.YtlcmjdkbeckdnaaTree.S_b HOq116 hb
  replace HOq141 := Go.Proofs.YtlcmjdkbeckdnaaTree.S_b HOq141 hb
  replace HOq170 := Go.Proofs.YtlcmjdkbeckdnaaTree.S_b HOq170 hb
  replace HOq204 := Go.Proofs.YtlcmjdkbeckdnaaTree.S_b HOq204 hb
  replace HKg1 := Go.Proofs.YtlcmjdkbeckdnaaTree.B_b HKg1 hb
  replace HKg4 := Go.Proofs.YtlcmjdkbeckdnaaTree.B_b HKg4 hb
  replace HKg90 := Go.Proofs.YtlcmjdkbeckdnaaTree.B_b HKg90 hb
  replace HKg119 := Go.Proofs.YtlcmjdkbeckdnaaTree.B_b HKg119 hb
  replace HKg144 := Go.Proofs.YtlcmjdkbeckdnaaTree.B_b HKg144 hb
  replace HKg173 := Go.Proofs.YtlcmjdkbeckdnaaTree.B_b HKg173 hb
  replace HS := Go.Proofs.YtlcmjdkbeckdnaaTree.Z_b HS hb
  replace HB := Go.Proofs.YtlcmjdkbeckdnaaTree.H_b HB hb
  replace HS := HZ220
  clear ho0
  clear hb
  refine hK.out _ _ ⟨(blk_cell HKg144.out 0).trans rfl, (blk_cell HKg144.out 1).trans rfl, (blk_cell HKg144.out 2).trans rfl, (blk_cell HKg144.out 3).trans rfl, (blk_cell HKg4.out 0).trans rfl, (blk_cell HKg4.out 1).trans rfl, (blk_cell HKg4.out 2).trans rfl, (blk_cell HKg4.out 3).trans rfl⟩ (fun hHeld => ?_)
  clear hK K
  refine norm_ (a' := ?_) ?_ ?_
  rotate_left
  · show Act.put _ (some 47) _ = _
    simp only [Act.put, List.setIfInBounds_toArray, List.set_cons_zero, List.set_cons_succ, i64_w, i32_w]
    rfl
  refine one_ (i := 3) (N := some 48) #[true, true, true, true, false] rfl rfl (by kernel_rfl) (by decide) (fun K hK => ?_)
  refine goes_ Try.func16 (by kernel_rfl) rfl #[.agg #[.int .i64 t136, .int .i64 t137, .int .i64 t138, .slice Aq141 t139.length cq141], .agg #[.int .i64 t213, .int .i64 t214, .int .i64 t215, .slice Aq218 t216.length cq218]] (by rfl) rfl rfl (by (try simp only [List.map_toArray, List.map_cons, List.map_nil]); first | done | rfl) ?_
  with_reducible refine (laws_eqCond.calls k t136 t137 t138 _ _ t139 t213 t214 t215 _ _ t216 true _ ?side1 ?side2 ?side3 ?side4 E221.out).mono ?_
  (case side1 => exact (Kd.S_reads' HOq141.out).2.2)
  (case side2 => exact (Kd.S_reads' HOq141.out).2.1)
  (case side3 => exact (Kd.S_reads' HOq218.out).2.2)
  (case side4 => exact (Kd.S_reads' HOq218.out).2.1)
  rintro e w223 ⟨rfl, hb⟩
  refine ⟨_, rfl, ?_⟩
  replace HOq95 := Go.Proofs.YtlcmjdkbeckdnaaTree.S_b HOq95 hb
  replace HOq116 := Go.Proofs.YtlcmjdkbeckdnaaTree.S_b HOq116 hb
  replace HOq141 := Go.Proofs.YtlcmjdkbeckdnaaTree.S_b HOq141 hb
  replace HOq170 := Go.Proofs.YtlcmjdkbeckdnaaTree.S_b HOq170 hb
  replace HOq204 := Go.Proofs.YtlcmjdkbeckdnaaTree.S_b HOq204 hb
  replace HOq218 := Go.Proofs.YtlcmjdkbeckdnaaTree.S_b HOq218 hb
  replace HKg1 := Go.Proofs.YtlcmjdkbeckdnaaTree.B_b HKg1 hb
  replace HKg4 := Go.Proofs.YtlcmjdkbeckdnaaTree.B_b HKg4 hb
  replace HKg90 := Go.Proofs.YtlcmjdkbeckdnaaTree.B_b HKg90 hb
  replace HKg119 := Go.Proofs.YtlcmjdkbeckdnaaTree.B_b HKg119 hb
  replace HKg144 := Go.Proofs.YtlcmjdkbeckdnaaTree.B_b HKg144 hb
  replace HKg173 := Go.Proofs.YtlcmjdkbeckdnaaTree.B_b HKg173 hb
  replace HS := Go.Proofs.YtlcmjdkbeckdnaaTree.Z_b HS hb
  replace HB := Go.Proofs.YtlcmjdkbeckdnaaTree.H_b HB hb
  clear hb
  refine hK.out _ _ ⟨(blk_cell HKg144.out 0).trans rfl, (blk_cell HKg144.out 1).trans rfl, (blk_cell HKg144.out 2).trans rfl, (blk_cell HKg144.out 3).trans rfl, (blk_cell HKg4.out 0).trans rfl, (blk_cell HKg4.out 1).trans rfl, (blk_cell HKg4.out 2).trans rfl, (blk_cell HKg4.out 3).trans rfl⟩ (fun hHeld => ?_)
  clear hK K
  refine norm_ (a' := ?_) ?_ ?_
  rotate_left
  · show Act.put _ (some 48) _ = _
    simp only [Act.put, List.setIfInBounds_toArray, List.set_cons_zero, List.set_cons_succ, i64_w, i32_w]
    rfl
  refine pure_ (i := 4) (N := some 49) (v := ?_) (a' := ?_) #[true, true, true, true, true] rfl rfl (by kernel_rfl) (fun _ _ _ h => h) (Or.inl ⟨by rfl, ?_⟩) ?_ ?_
  rotate_left
  · intro w'
    go_simp
    with_reducible rfl
  rotate_left
  · simp only [Act.put, List.setIfInBounds_toArray, List.set_cons_zero, List.set_cons_succ, i64_w, i32_w]
    rfl
  refine done_ (by kernel_rfl) ?_
  have hc225 : w223.cell? ⟨g119, 0, none⟩ = some (.int .i64 t111) := (blk_cell HKg119.out 0).trans rfl
  have hc226 : w223.cell? ⟨g119, 1, none⟩ = some (.int .i64 t112) := (blk_cell HKg119.out 1).trans rfl
  have hc227 : w223.cell? ⟨g119, 2, none⟩ = some (.int .i64 t113) := (blk_cell HKg119.out 2).trans rfl
  have hc228 : w223.cell? ⟨g119, 3, none⟩ = some (.slice Aq116 t114.length cq116) := (blk_cell HKg119.out 3).trans rfl
  go_wp2_with (first | ((with_reducible refine gate_callee (f := 21) rfl ?_); refine goesL_ (some 52) rfl rfl Try.func21 (by kernel_rfl) rfl #[.agg #[.int .i64 t111, .int .i64 t112, .int .i64 t113, .slice Aq116 t114.length cq116], .int .i64 1] rfl (by (try simp only [List.map_toArray, List.map_cons, List.map_nil]); first | done | rfl) ?_; (with_reducible refine (laws_markCond.calls t111 t112 t113 (fun x => Lq116 ≤ x ∧ x < Uq116) (.slice Aq116 t114.length cq116) t114 1 t230 t231 w _ ?side1 ?side2 E229.out).mono ?_); (case side1 => exact HB.out); (case side2 => exact HOq116.out); rintro e w232 ⟨rfl, hy_, hb_, hk⟩; refine ⟨_, rfl, ?_⟩; (try clear hc225 hc226 hc227 hc228); replace HOq95 := Go.Proofs.YtlcmjdkbeckdnaaTree.S_k HOq95 hk (fun x h1 h2 => (by have := HZ3.out; have := HZ6.out; have := HZ96.out; have := HZ117.out; have := HZ121.out; have := HZ142.out; have := HZ146.out; have := HZ171.out; have := HZ175.out; have := HZ205.out; have := HZ219.out; have h3_ : L91 ≤ x ∧ x < U92 := h1; have h4_ : Lq116 ≤ x ∧ x < Uq116 := h2; omega)); replace HOq141 := Go.Proofs.YtlcmjdkbeckdnaaTree.S_k HOq141 hk (fun x h1 h2 => (by have := HZ3.out; have := HZ6.out; have := HZ96.out; have := HZ117.out; have := HZ121.out; have := HZ142.out; have := HZ146.out; have := HZ171.out; have := HZ175.out; have := HZ205.out; have := HZ219.out; have h3_ : Lq141 ≤ x ∧ x < Uq141 := h1; have h4_ : Lq116 ≤ x ∧ x < Uq116 := h2; omega)); replace HOq170 := Go.Proofs.YtlcmjdkbeckdnaaTree.S_k HOq170 hk (fun x h1 h2 => (by have := HZ3.out; have := HZ6.out; have := HZ96.out; have := HZ117.out; have := HZ121.out; have := HZ142.out; have := HZ146.out; have := HZ171.out; have := HZ175.out; have := HZ205.out; have := HZ219.out; have h3_ : Lq170 ≤ x ∧ x < Uq170 := h1; have h4_ : Lq116 ≤ x ∧ x < Uq116 := h2; omega)); replace HOq204 := Go.Proofs.YtlcmjdkbeckdnaaTree.S_k HOq204 hk (fun x h1 h2 => (by have := HZ3.out; have := HZ6.out; have := HZ96.out; have := HZ117.out; have := HZ121.out; have := HZ142.out; have := HZ146.out; have := HZ171.out; have := HZ175.out; have := HZ205.out; have := HZ219.out; have h3_ : Lq204 ≤ x ∧ x < Uq204 := h1; have h4_ : Lq116 ≤ x ∧ x < Uq116 := h2; omega)); replace HOq218 := Go.Proofs.YtlcmjdkbeckdnaaTree.S_k HOq218 hk (fun x h1 h2 => (by have := HZ3.out; have := HZ6.out; have := HZ96.out; have := HZ117.out; have := HZ121.out; have := HZ142.out; have := HZ146.out; have := HZ171.out; have := HZ175.out; have := HZ205.out; have := HZ219.out; have h3_ : Lq218 ≤ x ∧ x < Uq218 := h1; have h4_ : Lq116 ≤ x ∧ x < Uq116 := h2; omega)); replace HKg1 := Go.Proofs.YtlcmjdkbeckdnaaTree.B_k HKg1 hk (fun h2 => (by have := HZ3.out; have := HZ6.out; have := HZ96.out; have := HZ117.out; have := HZ121.out; have := HZ142.out; have := HZ146.out; have := HZ171.out; have := HZ175.out; have := HZ205.out; have := HZ219.out; have h4_ : Lq116 ≤ g1 ∧ g1 < Uq116 := h2; omega)); replace HKg4 := Go.Proofs.YtlcmjdkbeckdnaaTree.B_k HKg4 hk (fun h2 => (by have := HZ3.out; have := HZ6.out; have := HZ96.out; have := HZ117.out; have := HZ121.out; have := HZ142.out; have := HZ146.out; have := HZ171.out; have := HZ175.out; have := HZ205.out; have := HZ219.out; have h4_ : Lq116 ≤ g4 ∧ g4 < Uq116 := h2; omega)); replace HKg90 := Go.Proofs.YtlcmjdkbeckdnaaTree.B_k HKg90 hk (fun h2 => (by have := HZ3.out; have := HZ6.out; have := HZ96.out; have := HZ117.out; have := HZ121.out; have := HZ142.out; have := HZ146.out; have := HZ171.out; have := HZ175.out; have := HZ205.out; have := HZ219.out; have h4_ : Lq116 ≤ g90 ∧ g90 < Uq116 := h2; omega)); replace HKg119 := Go.Proofs.YtlcmjdkbeckdnaaTree.B_k HKg119 hk (fun h2 => (by have := HZ3.out; have := HZ6.out; have := HZ96.out; have := HZ117.out; have := HZ121.out; have := HZ142.out; have := HZ146.out; have := HZ171.out; have := HZ175.out; have := HZ205.out; have := HZ219.out; have h4_ : Lq116 ≤ g119 ∧ g119 < Uq116 := h2; omega)); replace HKg144 := Go.Proofs.YtlcmjdkbeckdnaaTree.B_k HKg144 hk (fun h2 => (by have := HZ3.out; have := HZ6.out; have := HZ96.out; have := HZ117.out; have := HZ121.out; have := HZ142.out; have := HZ146.out; have := HZ171.out; have := HZ175.out; have := HZ205.out; have := HZ219.out; have h4_ : Lq116 ≤ g144 ∧ g144 < Uq116 := h2; omega)); replace HKg173 := Go.Proofs.YtlcmjdkbeckdnaaTree.B_k HKg173 hk (fun h2 => (by have := HZ3.out; have := HZ6.out; have := HZ96.out; have := HZ117.out; have := HZ121.out; have := HZ142.out; have := HZ146.out; have := HZ171.out; have := HZ175.out; have := HZ205.out; have := HZ219.out; have h4_ : Lq116 ≤ g173 ∧ g173 < Uq116 := h2; omega)); replace HS := Go.Proofs.YtlcmjdkbeckdnaaTree.Z_k HS hk; replace HB := Aside0.mk hb_; have HLN233 : Aside0 (t114.length = t231.length) := ⟨(Kd.S_reads' hy_).1⟩; replace HOq116 := Aside0.mk hy_; (try clear hk hb_); (try clear hy_); have hc234 : w232.cell? ⟨g144, 0, none⟩ = some (.int .i64 t136) := (blk_cell HKg144.out 0).trans rfl; have hc235 : w232.cell? ⟨g144, 1, none⟩ = some (.int .i64 t137) := (blk_cell HKg144.out 1).trans rfl; have hc236 : w232.cell? ⟨g144, 2, none⟩ = some (.int .i64 t138) := (blk_cell HKg144.out 2).trans rfl; have hc237 : w232.cell? ⟨g144, 3, none⟩ = some (.slice Aq141 t139.length cq141) := (blk_cell HKg144.out 3).trans rfl) | ((with_reducible refine gate_callee (f := 21) rfl ?_); refine goesL_ (some 55) rfl rfl Try.func21 (by kernel_rfl) rfl #[.agg #[.int .i64 t136, .int .i64 t137, .int .i64 t138, .slice Aq141 t139.length cq141], .int .i64 t230] rfl (by (try simp only [List.map_toArray, List.map_cons, List.map_nil]); first | done | rfl) ?_; (with_reducible refine (laws_markCond.calls t136 t137 t138 (fun x => Lq141 ≤ x ∧ x < Uq141) (.slice Aq141 t139.length cq141) t139 t230 t239 t240 w _ ?side1 ?side2 E238.out).mono ?_); (case side1 => exact HB.out); (case side2 => exact HOq141.out); rintro e w241 ⟨rfl, hy_, hb_, hk⟩; refine ⟨_, rfl, ?_⟩; (try clear hc234 hc235 hc236 hc237); replace HOq95 := Go.Proofs.YtlcmjdkbeckdnaaTree.S_k HOq95 hk (fun x h1 h2 => (by have := HZ3.out; have := HZ6.out; have := HZ96.out; have := HZ117.out; have := HZ121.out; have := HZ142.out; have := HZ146.out; have := HZ171.out; have := HZ175.out; have := HZ205.out; have := HZ219.out; have h3_ : L91 ≤ x ∧ x < U92 := h1; have h4_ : Lq141 ≤ x ∧ x < Uq141 := h2; omega)); replace HOq116 := Go.Proofs.YtlcmjdkbeckdnaaTree.S_k HOq116 hk (fun x h1 h2 => (by have := HZ3.out; have := HZ6.out; have := HZ96.out; have := HZ117.out; have := HZ121.out; have := HZ142.out; have := HZ146.out; have := HZ171.out; have := HZ175.out; have := HZ205.out; have := HZ219.out; have h3_ : Lq116 ≤ x ∧ x < Uq116 := h1; have h4_ : Lq141 ≤ x ∧ x < Uq141 := h2; omega)); replace HOq170 := Go.Proofs.YtlcmjdkbeckdnaaTree.S_k HOq170 hk (fun x h1 h2 => (by have := HZ3.out; have := HZ6.out; have := HZ96.out; have := HZ117.out; have := HZ121.out; have := HZ142.out; have := HZ146.out; have := HZ171.out; have := HZ175.out; have := HZ205.out; have := HZ219.out; have h3_ : Lq170 ≤ x ∧ x < Uq170 := h1; have h4_ : Lq141 ≤ x ∧ x < Uq141 := h2; omega)); replace HOq204 := Go.Proofs.YtlcmjdkbeckdnaaTree.S_k HOq204 hk (fun x h1 h2 => (by have := HZ3.out; have := HZ6.out; have := HZ96.out; have := HZ117.out; have := HZ121.out; have := HZ142.out; have := HZ146.out; have := HZ171.out; have := HZ175.out; have := HZ205.out; have := HZ219.out; have h3_ : Lq204 ≤ x ∧ x < Uq204 := h1; have h4_ : Lq141 ≤ x ∧ x < Uq141 := h2; omega)); replace HOq218 := Go.Proofs.YtlcmjdkbeckdnaaTree.S_k HOq218 hk (fun x h1 h2 => (by have := HZ3.out; have := HZ6.out; have := HZ96.out; have := HZ117.out; have := HZ121.out; have := HZ142.out; have := HZ146.out; have := HZ171.out; have := HZ175.out; have := HZ205.out; have := HZ219.out; have h3_ : Lq218 ≤ x ∧ x < Uq218 := h1; have h4_ : Lq141 ≤ x ∧ x < Uq141 := h2; omega)); replace HKg1 := Go.Proofs.YtlcmjdkbeckdnaaTree.B_k HKg1 hk (fun h2 => (by have := HZ3.out; have := HZ6.out; have := HZ96.out; have := HZ117.out; have := HZ121.out; have := HZ142.out; have := HZ146.out; have := HZ171.out; have := HZ175.out; have := HZ205.out; have := HZ219.out; have h4_ : Lq141 ≤ g1 ∧ g1 < Uq141 := h2; omega)); replace HKg4 := Go.Proofs.YtlcmjdkbeckdnaaTree.B_k HKg4 hk (fun h2 => (by have := HZ3.out; have := HZ6.out; have := HZ96.out; have := HZ117.out; have := HZ121.out; have := HZ142.out; have := HZ146.out; have := HZ171.out; have := HZ175.out; have := HZ205.out; have := HZ219.out; have h4_ : Lq141 ≤ g4 ∧ g4 < Uq141 := h2; omega)); replace HKg90 := Go.Proofs.YtlcmjdkbeckdnaaTree.B_k HKg90 hk (fun h2 => (by have := HZ3.out; have := HZ6.out; have := HZ96.out; have := HZ117.out; have := HZ121.out; have := HZ142.out; have := HZ146.out; have := HZ171.out; have := HZ175.out; have := HZ205.out; have := HZ219.out; have h4_ : Lq141 ≤ g90 ∧ g90 < Uq141 := h2; omega)); replace HKg119 := Go.Proofs.YtlcmjdkbeckdnaaTree.B_k HKg119 hk (fun h2 => (by have := HZ3.out; have := HZ6.out; have := HZ96.out; have := HZ117.out; have := HZ121.out; have := HZ142.out; have := HZ146.out; have := HZ171.out; have := HZ175.out; have := HZ205.out; have := HZ219.out; have h4_ : Lq141 ≤ g119 ∧ g119 < Uq141 := h2; omega)); replace HKg144 := Go.Proofs.YtlcmjdkbeckdnaaTree.B_k HKg144 hk (fun h2 => (by have := HZ3.out; have := HZ6.out; have := HZ96.out; have := HZ117.out; have := HZ121.out; have := HZ142.out; have := HZ146.out; have := HZ171.out; have := HZ175.out; have := HZ205.out; have := HZ219.out; have h4_ : Lq141 ≤ g144 ∧ g144 < Uq141 := h2; omega)); replace HKg173 := Go.Proofs.YtlcmjdkbeckdnaaTree.B_k HKg173 hk (fun h2 => (by have := HZ3.out; have := HZ6.out; have := HZ96.out; have := HZ117.out; have := HZ121.out; have := HZ142.out; have := HZ146.out; have := HZ171.out; have := HZ175.out; have := HZ205.out; have := HZ219.out; have h4_ : Lq141 ≤ g173 ∧ g173 < Uq141 := h2; omega)); replace HS := Go.Proofs.YtlcmjdkbeckdnaaTree.Z_k HS hk; replace HB := Aside0.mk hb_; have HLN242 : Aside0 (t139.length = t240.length) := ⟨(Kd.S_reads' hy_).1⟩; replace HOq141 := Aside0.mk hy_; (try clear hk hb_); (try clear hy_); have hc243 : w241.cell? ⟨g173, 0, none⟩ = some (.int .i64 t165) := (blk_cell HKg173.out 0).trans rfl; have hc244 : w241.cell? ⟨g173, 1, none⟩ = some (.int .i64 t166) := (blk_cell HKg173.out 1).trans rfl; have hc245 : w241.cell? ⟨g173, 2, none⟩ = some (.int .i64 t167) := (blk_cell HKg173.out 2).trans rfl; have hc246 : w241.cell? ⟨g173, 3, none⟩ = some (.slice Aq170 t168.length cq170) := (blk_cell HKg173.out 3).trans rfl; have hc247 : w241.cell? ⟨g90, 0, none⟩ = some (.int .i64 t35) := (blk_cell HKg90.out 0).trans rfl; have hc248 : w241.cell? ⟨g90, 1, none⟩ = some (.int .i64 t36) := (blk_cell HKg90.out 1).trans rfl; have hc249 : w241.cell? ⟨g90, 2, none⟩ = some (.int .i64 t37) := (blk_cell HKg90.out 2).trans rfl; have hc250 : w241.cell? ⟨g90, 3, none⟩ = some (.slice Aq95 t38.length cq95) := (blk_cell HKg90.out 3).trans rfl) | (go_at_call 16; (with_reducible refine (laws_eqCond.calls k t165 t166 t167 _ _ t168 t35 t36 t37 _ _ t38 true _ ?side1 ?side2 ?side3 ?side4 E252.out).mono ?_); (case side1 => exact (Kd.S_reads' HOq170.out).2.2); (case side2 => exact (Kd.S_reads' HOq170.out).2.1); (case side3 => exact (Kd.S_reads' HOq95.out).2.2); (case side4 => exact (Kd.S_reads' HOq95.out).2.1); rintro e w254 ⟨rfl, hb⟩; (try clear hc243 hc244 hc245 hc246 hc247 hc248 hc249 hc250); replace HOq95 := Go.Proofs.YtlcmjdkbeckdnaaTree.S_b HOq95 hb; replace HOq116 := Go.Proofs.YtlcmjdkbeckdnaaTree.S_b HOq116 hb; replace HOq141 := Go.Proofs.YtlcmjdkbeckdnaaTree.S_b HOq141 hb; replace HOq170 := Go.Proofs.YtlcmjdkbeckdnaaTree.S_b HOq170 hb; replace HOq204 := Go.Proofs.YtlcmjdkbeckdnaaTree.S_b HOq204 hb; replace HOq218 := Go.Proofs.YtlcmjdkbeckdnaaTree.S_b HOq218 hb; replace HKg1 := Go.Proofs.YtlcmjdkbeckdnaaTree.B_b HKg1 hb; replace HKg4 := Go.Proofs.YtlcmjdkbeckdnaaTree.B_b HKg4 hb; replace HKg90 := Go.Proofs.YtlcmjdkbeckdnaaTree.B_b HKg90 hb; replace HKg119 := Go.Proofs.YtlcmjdkbeckdnaaTree.B_b HKg119 hb; replace HKg144 := Go.Proofs.YtlcmjdkbeckdnaaTree.B_b HKg144 hb; replace HKg173 := Go.Proofs.YtlcmjdkbeckdnaaTree.B_b HKg173 hb; replace HS := Go.Proofs.YtlcmjdkbeckdnaaTree.Z_b HS hb; replace HB := Go.Proofs.YtlcmjdkbeckdnaaTree.H_b HB hb; clear hb; have hc256 : w254.cell? ⟨g173, 0, none⟩ = some (.int .i64 t165) := (blk_cell HKg173.out 0).trans rfl; have hc257 : w254.cell? ⟨g173, 1, none⟩ = some (.int .i64 t166) := (blk_cell HKg173.out 1).trans rfl; have hc258 : w254.cell? ⟨g173, 2, none⟩ = some (.int .i64 t167) := (blk_cell HKg173.out 2).trans rfl; have hc259 : w254.cell? ⟨g173, 3, none⟩ = some (.slice Aq170 t168.length cq170) := (blk_cell HKg173.out 3).trans rfl) | ((with_reducible refine gate_callee (f := 21) rfl ?_); refine goesL_ (some 66) rfl rfl Try.func21 (by kernel_rfl) rfl #[.agg #[.int .i64 t165, .int .i64 t166, .int .i64 t167, .slice Aq170 t168.length cq170], .int .i64 1] rfl (by (try simp only [List.map_toArray, List.map_cons, List.map_nil]); first | done | rfl) ?_; (with_reducible refine (laws_markCond.calls t165 t166 t167 (fun x => Lq170 ≤ x ∧ x < Uq170) (.slice Aq170 t168.length cq170) t168 1 t261 t262 w _ ?side1 ?side2 E260.out).mono ?_); (case side1 => exact HB.out); (case side2 => exact HOq170.out); rintro e w263 ⟨rfl, hy_, hb_, hk⟩; refine ⟨_, rfl, ?_⟩; (try clear hc256 hc257 hc258 hc259); replace HOq95 := Go.Proofs.YtlcmjdkbeckdnaaTree.S_k HOq95 hk (fun x h1 h2 => (by have := HZ3.out; have := HZ6.out; have := HZ96.out; have := HZ117.out; have := HZ121.out; have := HZ142.out; have := HZ146.out; have := HZ171.out; have := HZ175.out; have := HZ205.out; have := HZ219.out; have h3_ : L91 ≤ x ∧ x < U92 := h1; have h4_ : Lq170 ≤ x ∧ x < Uq170 := h2; omega)); replace HOq116 := Go.Proofs.YtlcmjdkbeckdnaaTree.S_k HOq116 hk (fun x h1 h2 => (by have := HZ3.out; have := HZ6.out; have := HZ96.out; have := HZ117.out; have := HZ121.out; have := HZ142.out; have := HZ146.out; have := HZ171.out; have := HZ175.out; have := HZ205.out; have := HZ219.out; have h3_ : Lq116 ≤ x ∧ x < Uq116 := h1; have h4_ : Lq170 ≤ x ∧ x < Uq170 := h2; omega)); replace HOq141 := Go.Proofs.YtlcmjdkbeckdnaaTree.S_k HOq141 hk (fun x h1 h2 => (by have := HZ3.out; have := HZ6.out; have := HZ96.out; have := HZ117.out; have := HZ121.out; have := HZ142.out; have := HZ146.out; have := HZ171.out; have := HZ175.out; have := HZ205.out; have := HZ219.out; have h3_ : Lq141 ≤ x ∧ x < Uq141 := h1; have h4_ : Lq170 ≤ x ∧ x < Uq170 := h2; omega)); replace HOq204 := Go.Proofs.YtlcmjdkbeckdnaaTree.S_k HOq204 hk (fun x h1 h2 => (by have := HZ3.out; have := HZ6.out; have := HZ96.out; have := HZ117.out; have := HZ121.out; have := HZ142.out; have := HZ146.out; have := HZ171.out; have := HZ175.out; have := HZ205.out; have := HZ219.out; have h3_ : Lq204 ≤ x ∧ x < Uq204 := h1; have h4_ : Lq170 ≤ x ∧ x < Uq170 := h2; omega)); replace HOq218 := Go.Proofs.YtlcmjdkbeckdnaaTree.S_k HOq218 hk (fun x h1 h2 => (by have := HZ3.out; have := HZ6.out; have := HZ96.out; have := HZ117.out; have := HZ121.out; have := HZ142.out; have := HZ146.out; have := HZ171.out; have := HZ175.out; have := HZ205.out; have := HZ219.out; have h3_ : Lq218 ≤ x ∧ x < Uq218 := h1; have h4_ : Lq170 ≤ x ∧ x < Uq170 := h2; omega)); replace HKg1 := Go.Proofs.YtlcmjdkbeckdnaaTree.B_k HKg1 hk (fun h2 => (by have := HZ3.out; have := HZ6.out; have := HZ96.out; have := HZ117.out; have := HZ121.out; have := HZ142.out; have := HZ146.out; have := HZ171.out; have := HZ175.out; have := HZ205.out; have := HZ219.out; have h4_ : Lq170 ≤ g1 ∧ g1 < Uq170 := h2; omega)); replace HKg4 := Go.Proofs.YtlcmjdkbeckdnaaTree.B_k HKg4 hk (fun h2 => (by have := HZ3.out; have := HZ6.out; have := HZ96.out; have := HZ117.out; have := HZ121.out; have := HZ142.out; have := HZ146.out; have := HZ171.out; have := HZ175.out; have := HZ205.out; have := HZ219.out; have h4_ : Lq170 ≤ g4 ∧ g4 < Uq170 := h2; omega)); replace HKg90 := Go.Proofs.YtlcmjdkbeckdnaaTree.B_k HKg90 hk (fun h2 => (by have := HZ3.out; have := HZ6.out; have := HZ96.out; have := HZ117.out; have := HZ121.out; have := HZ142.out; have := HZ146.out; have := HZ171.out; have := HZ175.out; have := HZ205.out; have := HZ219.out; have h4_ : Lq170 ≤ g90 ∧ g90 < Uq170 := h2; omega)); replace HKg119 := Go.Proofs.YtlcmjdkbeckdnaaTree.B_k HKg119 hk (fun h2 => (by have := HZ3.out; have := HZ6.out; have := HZ96.out; have := HZ117.out; have := HZ121.out; have := HZ142.out; have := HZ146.out; have := HZ171.out; have := HZ175.out; have := HZ205.out; have := HZ219.out; have h4_ : Lq170 ≤ g119 ∧ g119 < Uq170 := h2; omega)); replace HKg144 := Go.Proofs.YtlcmjdkbeckdnaaTree.B_k HKg144 hk (fun h2 => (by have := HZ3.out; have := HZ6.out; have := HZ96.out; have := HZ117.out; have := HZ121.out; have := HZ142.out; have := HZ146.out; have := HZ171.out; have := HZ175.out; have := HZ205.out; have := HZ219.out; have h4_ : Lq170 ≤ g144 ∧ g144 < Uq170 := h2; omega)); replace HKg173 := Go.Proofs.YtlcmjdkbeckdnaaTree.B_k HKg173 hk (fun h2 => (by have := HZ3.out; have := HZ6.out; have := HZ96.out; have := HZ117.out; have := HZ121.out; have := HZ142.out; have := HZ146.out; have := HZ171.out; have := HZ175.out; have := HZ205.out; have := HZ219.out; have h4_ : Lq170 ≤ g173 ∧ g173 < Uq170 := h2; omega)); replace HS := Go.Proofs.YtlcmjdkbeckdnaaTree.Z_k HS hk; replace HB := Aside0.mk hb_; have HLN264 : Aside0 (t168.length = t262.length) := ⟨(Kd.S_reads' hy_).1⟩; replace HOq170 := Aside0.mk hy_; (try clear hk hb_); (try clear hy_); have hc265 : w263.cell? ⟨g173, 0, none⟩ = some (.int .i64 t165) := (blk_cell HKg173.out 0).trans rfl; have hc266 : w263.cell? ⟨g173, 1, none⟩ = some (.int .i64 t166) := (blk_cell HKg173.out 1).trans rfl; have hc267 : w263.cell? ⟨g173, 2, none⟩ = some (.int .i64 t167) := (blk_cell HKg173.out 2).trans rfl; have hc268 : w263.cell? ⟨g173, 3, none⟩ = some (.slice Aq170 t168.length cq170) := (blk_cell HKg173.out 3).trans rfl) | ((with_reducible refine gate_callee (f := 22) rfl ?_); refine goesL_ (some 69) rfl rfl Try.func22 (by kernel_rfl) rfl #[.agg #[.int .i64 t165, .int .i64 t166, .int .i64 t167, .slice Aq170 t168.length cq170], .int .i64 1] rfl (by (try simp only [List.map_toArray, List.map_cons, List.map_nil]); first | done | rfl) ?_; rw [HLN264.out]; (with_reducible refine (laws_heldCond.calls k t165 t166 t167 _ _ t262 1 t261 _ ?side1 ?side2 E269.out).mono ?_); (case side1 => exact (Kd.S_reads' HOq170.out).2.2); (case side2 => (have h1_ := (Kd.S_reads' HOq170.out).2.1; have h2_ := HLN264.out; omega)); rintro e w271 ⟨rfl, hb⟩; refine ⟨_, rfl, ?_⟩; (try clear hc265 hc266 hc267 hc268); replace HOq95 := Go.Proofs.YtlcmjdkbeckdnaaTree.S_b HOq95 hb; replace HOq116 := Go.Proofs.YtlcmjdkbeckdnaaTree.S_b HOq116 hb; replace HOq141 := Go.Proofs.YtlcmjdkbeckdnaaTree.S_b HOq141 hb; replace HOq170 := Go.Proofs.YtlcmjdkbeckdnaaTree.S_b HOq170 hb; replace HOq204 := Go.Proofs.YtlcmjdkbeckdnaaTree.S_b HOq204 hb; replace HOq218 := Go.Proofs.YtlcmjdkbeckdnaaTree.S_b HOq218 hb; replace HKg1 := Go.Proofs.YtlcmjdkbeckdnaaTree.B_b HKg1 hb; replace HKg4 := Go.Proofs.YtlcmjdkbeckdnaaTree.B_b HKg4 hb; replace HKg90 := Go.Proofs.YtlcmjdkbeckdnaaTree.B_b HKg90 hb; replace HKg119 := Go.Proofs.YtlcmjdkbeckdnaaTree.B_b HKg119 hb; replace HKg144 := Go.Proofs.YtlcmjdkbeckdnaaTree.B_b HKg144 hb; replace HKg173 := Go.Proofs.YtlcmjdkbeckdnaaTree.B_b HKg173 hb; replace HS := Go.Proofs.YtlcmjdkbeckdnaaTree.Z_b HS hb; replace HB := Go.Proofs.YtlcmjdkbeckdnaaTree.H_b HB hb; clear hb))
  have hb := below_drew (Below.refl w271.heap.size w271)
  replace HOq95 := Go.Proofs.YtlcmjdkbeckdnaaTree.S_b HOq95 hb
  replace HOq116 := Go.Proofs.YtlcmjdkbeckdnaaTree.S_b HOq116 hb
  replace HOq141 := Go.Proofs.YtlcmjdkbeckdnaaTree.S_b HOq141 hb
  replace HOq170 := Go.Proofs.YtlcmjdkbeckdnaaTree.S_b HOq170 hb
  replace HOq204 := Go.Proofs.YtlcmjdkbeckdnaaTree.S_b HOq204 hb
  replace HOq218 := Go.Proofs.YtlcmjdkbeckdnaaTree.S_b HOq218 hb
  replace HKg1 := Go.Proofs.YtlcmjdkbeckdnaaTree.B_b HKg1 hb
  replace HKg4 := Go.Proofs.YtlcmjdkbeckdnaaTree.B_b HKg4 hb
  replace HKg90 := Go.Proofs.YtlcmjdkbeckdnaaTree.B_b HKg90 hb
  replace HKg119 := Go.Proofs.YtlcmjdkbeckdnaaTree.B_b HKg119 hb
  replace HKg144 := Go.Proofs.YtlcmjdkbeckdnaaTree.B_b HKg144 hb
  replace HKg173 := Go.Proofs.YtlcmjdkbeckdnaaTree.B_b HKg173 hb
  replace HS := Go.Proofs.YtlcmjdkbeckdnaaTree.Z_b HS hb
  replace HB := Go.Proofs.YtlcmjdkbeckdnaaTree.H_b HB hb
  clear hb
  refine start_ (n := 7) (S := fun w' => w'.cell? ⟨g1, 0, none⟩ = some (.int .i64 a0_0) ∧ w'.cell? ⟨g1, 1, none⟩ = some (.int .i64 a0_1) ∧ w'.cell? ⟨g1, 2, none⟩ = some (.int .i64 a0_2) ∧ w'.cell? ⟨g1, 3, none⟩ = some (.slice A0_3 l0_3.length c0_3) ∧ w'.cell? ⟨g4, 0, none⟩ = some (.int .i64 a1_0) ∧ w'.cell? ⟨g4, 1, none⟩ = some (.int .i64 a1_1) ∧ w'.cell? ⟨g4, 2, none⟩ = some (.int .i64 a1_2) ∧ w'.cell? ⟨g4, 3, none⟩ = some (.slice A1_3 l1_3.length c1_3)) (ds := []) #[false, false, false, false, false, false, false] (by kernel_rfl) rfl rfl ⟨(blk_cell HKg1.out 0).trans rfl, (blk_cell HKg1.out 1).trans rfl, (blk_cell HKg1.out 2).trans rfl, (blk_cell HKg1.out 3).trans rfl, (blk_cell HKg4.out 0).trans rfl, (blk_cell HKg4.out 1).trans rfl, (blk_cell HKg4.out 2).trans rfl, (blk_cell HKg4.out 3).trans rfl⟩ (fun hHeld => ?_)
  generalize w271.drew = w274 at HOq95 HOq116 HOq141 HOq170 HOq204 HOq218 HKg1 HKg4 HKg90 HKg119 HKg144 HKg173 HB HS hHeld ⊢
  refine take_ (i := 0) (N := some 75) (v := ?_) (a' := ?_) #[true, false, false, false, false, false, false] rfl rfl (by kernel_rfl) (fun _ _ _ h => h) (Or.inl ⟨by rfl, ?_⟩) hHeld ?_ ?_
  rotate_left
  · rintro w' ⟨s0, s1, s2, s3, s4, s5, s6, s7⟩
    go_simp
    with_reducible rfl
  rotate_left
  · simp only [Act.put, List.setIfInBounds_toArray, List.set_cons_zero, List.set_cons_succ, i64_w, i32_w]
    rfl
  refine take_ (i := 2) (N := some 77) (v := ?_) (a' := ?_) #[true, false, true, false, false, false, false] rfl rfl (by kernel_rfl) (fun _ _ _ h => h) (Or.inl ⟨by rfl, ?_⟩) hHeld ?_ ?_
  rotate_left
  · rintro w' ⟨s0, s1, s2, s3, s4, s5, s6, s7⟩
    go_simp
    with_reducible rfl
  rotate_left
  · simp only [Act.put, List.setIfInBounds_toArray, List.set_cons_zero, List.set_cons_succ, i64_w, i32_w]
    rfl
  refine join_ (σ := Value × Value × Value × Nat × Nat × Nat × Nat) 1 #[true, true, true, true, true, true, false] (fun s_ => [(76, .agg #[.int .i64 t276, .int .i64 t277, .int .i64 t278, s_.1]), (78, .agg #[.int .i64 t281, .int .i64 t282, .int .i64 t283, s_.2.1]), (79, .agg #[.int .i64 t286, .int .i64 t287, .int .i64 t288, s_.2.2.1]), (13, .pointer (some ⟨s_.2.2.2.1, 0, none⟩))]) (fun s_ w' => (w'.cell? ⟨g1, 0, none⟩ = some (.int .i64 a0_0) ∧ w'.cell? ⟨g1, 1, none⟩ = some (.int .i64 a0_1) ∧ w'.cell? ⟨g1, 2, none⟩ = some (.int .i64 a0_2) ∧ w'.cell? ⟨g1, 3, none⟩ = some (.slice A0_3 l0_3.length c0_3) ∧ w'.cell? ⟨g4, 0, none⟩ = some (.int .i64 a1_0) ∧ w'.cell? ⟨g4, 1, none⟩ = some (.int .i64 a1_1) ∧ w'.cell? ⟨g4, 2, none⟩ = some (.int .i64 a1_2) ∧ w'.cell? ⟨g4, 3, none⟩ = some (.slice A1_3 l1_3.length c1_3)) ∧ (Kd.S k29 29 w' w.heap.size (fun x => s_.2.2.2.2.1 ≤ x ∧ x < s_.2.2.2.2.2.1) (s_.2.2.1) t289) ∧ (Kd.S k29 29 w' w.heap.size (fun x => L91 ≤ x ∧ x < U92) (.slice Aq95 t38.length cq95) t38) ∧ (Kd.S k29 29 w' w.heap.size (fun x => Lq116 ≤ x ∧ x < Uq116) (.slice Aq116 t114.length cq116) t231) ∧ (Kd.S k29 29 w' w.heap.size (fun x => Lq141 ≤ x ∧ x < Uq141) (.slice Aq141 t139.length cq141) t240) ∧ (Kd.S k29 29 w' w.heap.size (fun x => Lq170 ≤ x ∧ x < Uq170) (.slice Aq170 t168.length cq170) t262) ∧ (Kd.S k29 29 w' w.heap.size (fun x => Lq204 ≤ x ∧ x < Uq204) (.slice Aq204 t202.length cq204) t202) ∧ (Kd.S k29 29 w' w.heap.size (fun x => Lq218 ≤ x ∧ x < Uq218) (.slice Aq218 t216.length cq218) t216) ∧ (w'.heap[g1]? = some (.cells #[.int .i64 a0_0, .int .i64 a0_1, .int .i64 a0_2, .slice A0_3 l0_3.length c0_3] 24 (0, 0))) ∧ (w'.heap[g4]? = some (.cells #[.int .i64 a1_0, .int .i64 a1_1, .int .i64 a1_2, .slice A1_3 l1_3.length c1_3] 24 (0, 0))) ∧ (w'.heap[g90]? = some (.cells #[.int .i64 t35, .int .i64 t36, .int .i64 t37, .slice Aq95 t38.length cq95] 29 (0, 0))) ∧ (w'.heap[g119]? = some (.cells #[.int .i64 t111, .int .i64 t112, .int .i64 t113, .slice Aq116 t114.length cq116] 29 (0, 0))) ∧ (w'.heap[g144]? = some (.cells #[.int .i64 t136, .int .i64 t137, .int .i64 t138, .slice Aq141 t139.length cq141] 29 (0, 0))) ∧ (w'.heap[g173]? = some (.cells #[.int .i64 t165, .int .i64 t166, .int .i64 t167, .slice Aq170 t168.length cq170] 29 (0, 0))) ∧ (w'.heap[s_.2.2.2.1]? = some (.cells #[.int .i64 0, .int .i64 0, .int .i64 0, .slice none 0 0] 29 (0, 0))) ∧ ((Uq218 ≤ s_.2.2.2.2.1 ∧ s_.2.2.2.2.1 ≤ s_.2.2.2.2.2.1 ∧ s_.2.2.2.2.2.1 ≤ s_.2.2.2.2.2.2 ∧ Uq218 ≤ s_.2.2.2.1 ∧ s_.2.2.2.1 + 1 ≤ s_.2.2.2.2.2.2 ∧ (s_.2.2.2.1 + 1 ≤ s_.2.2.2.2.1 ∨ s_.2.2.2.2.2.1 ≤ s_.2.2.2.1) ∧ w.heap.size ≤ s_.2.2.2.1)) ∧ (s_.2.2.2.2.2.2 ≤ w'.heap.size) ∧ (Below w.heap.size w w')) ?_ ?_
  rotate_left
  · intro hCont
    refine two_ (i := 1) (j := 5) (Ni := some 76) (Nj := some 13) #[true, true, true, false, false, false, false] #[true, false, true, false, false, true, false] rfl rfl rfl rfl (by kernel_rfl) (by decide) (by decide) (fun K hK => ?_) (fun K hK => ?_)
    · skip
      refine goes_ Try.func14 (by kernel_rfl) rfl #[.agg #[.int .i64 a0_0, .int .i64 a0_1, .int .i64 a0_2, .slice A0_3 l0_3.length c0_3]] (by rfl) rfl rfl (by (try simp only [List.map_toArray, List.map_cons, List.map_nil]); first | done | rfl) ?_
      with_reducible refine (laws_toCond.calls k a0_0 a0_1 a0_2 _ _ l0_3 t276 t277 t278 t279 _ ?side1 ?side2 E275.out).mono ?_
      (case side1 => exact Kd.C_below HR0_3.out HB.out)
      (case side2 => exact HC0_3.out)
      rintro e w290 ⟨v_0, rfl, ho0, hb⟩
      obtain ⟨Aq291, cq291, rfl⟩ := Kd.S_slice ho0
      refine ⟨_, rfl, ?_⟩
      obtain ⟨Lq291, Uq291, HZ292, HZ293, HOq291⟩ := Go.Proofs.YtlcmjdkbeckdnaaTree.S_made ho0 HS.out hb HB.out.size
      replace HOq95 := Go.Proofs.YtlcmjdkbeckdnaaTree.S_b HOq95 hb
      replace HOq116 := Go.Proofs.YtlcmjdkbeckdnaaTree.S_b HOq116 hb
      replace HOq141 := Go.Proofs.YtlcmjdkbeckdnaaTree.S_b HOq141 hb
      replace HOq170 := Go.Proofs.YtlcmjdkbeckdnaaTree.S_b HOq170 hb
      replace HOq204 := Go.Proofs.YtlcmjdkbeckdnaaTree.S_b HOq204 hb
      replace HOq218 := Go.Proofs.YtlcmjdkbeckdnaaTree.S_b HOq218 hb
      replace HKg1 := Go.Proofs.YtlcmjdkbeckdnaaTree.B_b HKg1 hb
      replace HKg4 := Go.Proofs.YtlcmjdkbeckdnaaTree.B_b HKg4 hb
      replace HKg90 := Go.Proofs.YtlcmjdkbeckdnaaTree.B_b HKg90 hb
      replace HKg119 := Go.Proofs.YtlcmjdkbeckdnaaTree.B_b HKg119 hb
      replace HKg144 := Go.Proofs.YtlcmjdkbeckdnaaTree.B_b HKg144 hb
      replace HKg173 := Go.Proofs.YtlcmjdkbeckdnaaTree.B_b HKg173 hb
      replace HS := Go.Proofs.YtlcmjdkbeckdnaaTree.Z_b HS hb
      replace HB := Go.Proofs.YtlcmjdkbeckdnaaTree.H_b HB hb
      replace HS := HZ293
      clear ho0
      clear hb
      refine hK.out _ _ ⟨(blk_cell HKg1.out 0).trans rfl, (blk_cell HKg1.out 1).trans rfl, (blk_cell HKg1.out 2).trans rfl, (blk_cell HKg1.out 3).trans rfl, (blk_cell HKg4.out 0).trans rfl, (blk_cell HKg4.out 1).trans rfl, (blk_cell HKg4.out 2).trans rfl, (blk_cell HKg4.out 3).trans rfl⟩ (fun hHeld => ?_)
      clear hK K
      refine norm_ (a' := ?_) ?_ ?_
      rotate_left
      · show Act.put _ (some 76) _ = _
        simp only [Act.put, List.setIfInBounds_toArray, List.set_cons_zero, List.set_cons_succ, i64_w, i32_w]
        rfl
      refine two_ (i := 3) (j := 5) (Ni := some 78) (Nj := some 13) #[true, true, true, true, false, false, false] #[true, true, true, false, false, true, false] rfl rfl rfl rfl (by kernel_rfl) (by decide) (by decide) (fun K hK => ?_) (fun K hK => ?_)
      · skip
        refine goes_ Try.func14 (by kernel_rfl) rfl #[.agg #[.int .i64 a1_0, .int .i64 a1_1, .int .i64 a1_2, .slice A1_3 l1_3.length c1_3]] (by rfl) rfl rfl (by (try simp only [List.map_toArray, List.map_cons, List.map_nil]); first | done | rfl) ?_
        with_reducible refine (laws_toCond.calls k a1_0 a1_1 a1_2 _ _ l1_3 t281 t282 t283 t284 _ ?side1 ?side2 E280.out).mono ?_
        (case side1 => exact Kd.C_below HR1_3.out HB.out)
        (case side2 => exact HC1_3.out)
        rintro e w294 ⟨v_0, rfl, ho0, hb⟩
        obtain ⟨Aq295, cq295, rfl⟩ := Kd.S_slice ho0
        refine ⟨_, rfl, ?_⟩
        obtain ⟨Lq295, Uq295, HZ296, HZ297, HOq295⟩ := Go.Proofs.YtlcmjdkbeckdnaaTree.S_made ho0 HS.out hb HB.out.size
        replace HOq95 := Go.Proofs.YtlcmjdkbeckdnaaTree.S_b HOq95 hb
        replace HOq116 := Go.Proofs.YtlcmjdkbeckdnaaTree.S_b HOq116 hb
        replace HOq141 := Go.Proofs.YtlcmjdkbeckdnaaTree.S_b HOq141 hb
        replace HOq170 := Go.Proofs.YtlcmjdkbeckdnaaTree.S_b HOq170 hb
        replace HOq204 := Go.Proofs.YtlcmjdkbeckdnaaTree.S_b HOq204 hb
        replace HOq218 := Go.Proofs.YtlcmjdkbeckdnaaTree.S_b HOq218 hb
        replace HOq291 := Go.Proofs.YtlcmjdkbeckdnaaTree.S_b HOq291 hb
        replace HKg1 := Go.Proofs.YtlcmjdkbeckdnaaTree.B_b HKg1 hb
        replace HKg4 := Go.Proofs.YtlcmjdkbeckdnaaTree.B_b HKg4 hb
        replace HKg90 := Go.Proofs.YtlcmjdkbeckdnaaTree.B_b HKg90 hb
        replace HKg119 := Go.Proofs.YtlcmjdkbeckdnaaTree.B_b HKg119 hb
        replace HKg144 := Go.Proofs.YtlcmjdkbeckdnaaTree.B_b HKg144 hb
        replace HKg173 := Go.Proofs.YtlcmjdkbeckdnaaTree.B_b HKg173 hb
        replace HS := Go.Proofs.YtlcmjdkbeckdnaaTree.Z_b HS hb
        replace HB := Go.Proofs.YtlcmjdkbeckdnaaTree.H_b HB hb
        replace HS := HZ297
        clear ho0
        clear hb
        refine hK.out _ _ ⟨(blk_cell HKg1.out 0).trans rfl, (blk_cell HKg1.out 1).trans rfl, (blk_cell HKg1.out 2).trans rfl, (blk_cell HKg1.out 3).trans rfl, (blk_cell HKg4.out 0).trans rfl, (blk_cell HKg4.out 1).trans rfl, (blk_cell HKg4.out 2).trans rfl, (blk_cell HKg4.out 3).trans rfl⟩ (fun hHeld => ?_)
        clear hK K
        refine norm_ (a' := ?_) ?_ ?_
        rotate_left
        · show Act.put _ (some 78) _ = _
          simp only [Act.put, List.setIfInBounds_toArray, List.set_cons_zero, List.set_cons_succ, i64_w, i32_w]
          rfl
        refine two_ (i := 4) (j := 5) (Ni := some 79) (Nj := some 13) #[true, true, true, true, true, false, false] #[true, true, true, true, false, true, false] rfl rfl rfl rfl (by kernel_rfl) (by decide) (by decide) (fun K hK => ?_) (fun K hK => ?_)
        · skip
          refine goes_ Try.func26 (by kernel_rfl) rfl #[.agg #[.int .i64 t276, .int .i64 t277, .int .i64 t278, .slice Aq291 t279.length cq291], .agg #[.int .i64 t281, .int .i64 t282, .int .i64 t283, .slice Aq295 t284.length cq295]] (by rfl) rfl rfl (by (try simp only [List.map_toArray, List.map_cons, List.map_nil]); first | done | rfl) ?_
          with_reducible refine (impl_CondOr.calls k t276 t277 t278 _ _ t279 t281 t282 t283 _ _ t284 t286 t287 t288 t289 _ ?side1 ?side2 ?side3 ?side4 E285.out).mono ?_
          (case side1 => exact (Kd.S_reads' HOq291.out).2.2)
          (case side2 => exact (Kd.S_reads' HOq291.out).2.1)
          (case side3 => exact (Kd.S_reads' HOq295.out).2.2)
          (case side4 => exact (Kd.S_reads' HOq295.out).2.1)
          rintro e w298 ⟨v_0, rfl, ho0, hb⟩
          obtain ⟨Aq299, cq299, rfl⟩ := Kd.S_slice ho0
          refine ⟨_, rfl, ?_⟩
          obtain ⟨Lq299, Uq299, HZ300, HZ301, HOq299⟩ := Go.Proofs.YtlcmjdkbeckdnaaTree.S_made ho0 HS.out hb HB.out.size
          replace HOq95 := Go.Proofs.YtlcmjdkbeckdnaaTree.S_b HOq95 hb
          replace HOq116 := Go.Proofs.YtlcmjdkbeckdnaaTree.S_b HOq116 hb
          replace HOq141 := Go.Proofs.YtlcmjdkbeckdnaaTree.S_b HOq141 hb
          replace HOq170 := Go.Proofs.YtlcmjdkbeckdnaaTree.S_b HOq170 hb
          replace HOq204 := Go.Proofs.YtlcmjdkbeckdnaaTree.S_b HOq204 hb
          replace HOq218 := Go.Proofs.YtlcmjdkbeckdnaaTree.S_b HOq218 hb
          replace HOq291 := Go.Proofs.YtlcmjdkbeckdnaaTree.S_b HOq291 hb
          replace HOq295 := Go.Proofs.YtlcmjdkbeckdnaaTree.S_b HOq295 hb
          replace HKg1 := Go.Proofs.YtlcmjdkbeckdnaaTree.B_b HKg1 hb
          replace HKg4 := Go.Proofs.YtlcmjdkbeckdnaaTree.B_b HKg4 hb
          replace HKg90 := Go.Proofs.YtlcmjdkbeckdnaaTree.B_b HKg90 hb
          replace HKg119 := Go.Proofs.YtlcmjdkbeckdnaaTree.B_b HKg119 hb
          replace HKg144 := Go.Proofs.YtlcmjdkbeckdnaaTree.B_b HKg144 hb
          replace HKg173 := Go.Proofs.YtlcmjdkbeckdnaaTree.B_b HKg173 hb
          replace HS := Go.Proofs.YtlcmjdkbeckdnaaTree.Z_b HS hb
          replace HB := Go.Proofs.YtlcmjdkbeckdnaaTree.H_b HB hb
          replace HS := HZ301
          clear ho0
          clear hb
          refine hK.out _ _ ⟨(blk_cell HKg1.out 0).trans rfl, (blk_cell HKg1.out 1).trans rfl, (blk_cell HKg1.out 2).trans rfl, (blk_cell HKg1.out 3).trans rfl, (blk_cell HKg4.out 0).trans rfl, (blk_cell HKg4.out 1).trans rfl, (blk_cell HKg4.out 2).trans rfl, (blk_cell HKg4.out 3).trans rfl⟩ (fun hHeld => ?_)
          clear hK K
          refine norm_ (a' := ?_) ?_ ?_
          rotate_left
          · show Act.put _ (some 79) _ = _
            simp only [Act.put, List.setIfInBounds_toArray, List.set_cons_zero, List.set_cons_succ, i64_w, i32_w]
            rfl
          refine one_ (i := 5) (N := some 13) #[true, true, true, true, true, true, false] rfl rfl (by kernel_rfl) (by decide) (fun K hK => ?_)
          refine box_step ?hg (N := 13) ?hd (cs := #[.int .i64 0, .int .i64 0, .int .i64 0, .slice none 0 0]) (t := 29) ?hr ?_; (case hd => rfl); (case hg => rfl); (case hr => first | (go_simp; done) | (go_simp; rfl))
          intro g302 hg w303 hbox hb
          have HZ304 : Aside0 (Uq299 ≤ g302 ∧ w.heap.size ≤ g302) := ⟨by rw [hg]; exact ⟨HS.out, HB.out.size⟩⟩
          replace HOq95 := Go.Proofs.YtlcmjdkbeckdnaaTree.S_b HOq95 hb
          replace HOq116 := Go.Proofs.YtlcmjdkbeckdnaaTree.S_b HOq116 hb
          replace HOq141 := Go.Proofs.YtlcmjdkbeckdnaaTree.S_b HOq141 hb
          replace HOq170 := Go.Proofs.YtlcmjdkbeckdnaaTree.S_b HOq170 hb
          replace HOq204 := Go.Proofs.YtlcmjdkbeckdnaaTree.S_b HOq204 hb
          replace HOq218 := Go.Proofs.YtlcmjdkbeckdnaaTree.S_b HOq218 hb
          replace HOq291 := Go.Proofs.YtlcmjdkbeckdnaaTree.S_b HOq291 hb
          replace HOq295 := Go.Proofs.YtlcmjdkbeckdnaaTree.S_b HOq295 hb
          replace HOq299 := Go.Proofs.YtlcmjdkbeckdnaaTree.S_b HOq299 hb
          replace HKg1 := Go.Proofs.YtlcmjdkbeckdnaaTree.B_b HKg1 hb
          replace HKg4 := Go.Proofs.YtlcmjdkbeckdnaaTree.B_b HKg4 hb
          replace HKg90 := Go.Proofs.YtlcmjdkbeckdnaaTree.B_b HKg90 hb
          replace HKg119 := Go.Proofs.YtlcmjdkbeckdnaaTree.B_b HKg119 hb
          replace HKg144 := Go.Proofs.YtlcmjdkbeckdnaaTree.B_b HKg144 hb
          replace HKg173 := Go.Proofs.YtlcmjdkbeckdnaaTree.B_b HKg173 hb
          replace HS := Go.Proofs.YtlcmjdkbeckdnaaTree.Z_b HS hb
          replace HB := Go.Proofs.YtlcmjdkbeckdnaaTree.H_b HB hb
          have HKg302 := Aside0.mk hbox
          replace HS : Aside0 (g302 + 1 ≤ w303.heap.size) := ⟨blk_lt hbox⟩
          clear hg hbox hb
          refine hK.out _ _ ⟨(blk_cell HKg1.out 0).trans rfl, (blk_cell HKg1.out 1).trans rfl, (blk_cell HKg1.out 2).trans rfl, (blk_cell HKg1.out 3).trans rfl, (blk_cell HKg4.out 0).trans rfl, (blk_cell HKg4.out 1).trans rfl, (blk_cell HKg4.out 2).trans rfl, (blk_cell HKg4.out 3).trans rfl⟩ (fun hHeld => ?_)
          clear hK K
          refine norm_ (a' := ?_) ?_ ?_
          rotate_left
          · show Act.put _ (some 13) _ = _
            simp only [Act.put, List.setIfInBounds_toArray, List.set_cons_zero, List.set_cons_succ, i64_w, i32_w]
            rfl
          have hcj : Uq218 ≤ Lq299 ∧ Lq299 ≤ Uq299 ∧ Uq299 ≤ w303.heap.size ∧ Uq218 ≤ g302 ∧ g302 + 1 ≤ w303.heap.size ∧ (g302 + 1 ≤ Lq299 ∨ Uq299 ≤ g302) ∧ w.heap.size ≤ g302 := (by have := HZ3.out; have := HZ6.out; have := HZ96.out; have := HZ117.out; have := HZ121.out; have := HZ142.out; have := HZ146.out; have := HZ171.out; have := HZ175.out; have := HZ205.out; have := HZ219.out; have := HZ292.out; have := HZ296.out; have := HZ300.out; have := HZ304.out; have := HS.out; omega)
          exact norm_ (by simp only [putAll, Act.put, List.setIfInBounds_toArray, List.set_cons_zero, List.set_cons_succ]) (hCont (.slice Aq291 t279.length cq291, .slice Aq295 t284.length cq295, .slice Aq299 t289.length cq299, g302, Lq299, Uq299, w303.heap.size) _ ⟨hHeld, HOq299.out, HOq95.out, HOq116.out, HOq141.out, HOq170.out, HOq204.out, HOq218.out, HKg1.out, HKg4.out, HKg90.out, HKg119.out, HKg144.out, HKg173.out, HKg302.out, hcj, Nat.le_refl _, HB.out⟩)
        · skip
          refine box_step ?hg (N := 13) ?hd (cs := #[.int .i64 0, .int .i64 0, .int .i64 0, .slice none 0 0]) (t := 29) ?hr ?_; (case hd => rfl); (case hg => rfl); (case hr => first | (go_simp; done) | (go_simp; rfl))
          intro g305 hg w306 hbox hb
          have HZ307 : Aside0 (Uq295 ≤ g305 ∧ w.heap.size ≤ g305) := ⟨by rw [hg]; exact ⟨HS.out, HB.out.size⟩⟩
          replace HOq95 := Go.Proofs.YtlcmjdkbeckdnaaTree.S_b HOq95 hb
          replace HOq116 := Go.Proofs.YtlcmjdkbeckdnaaTree.S_b HOq116 hb
          replace HOq141 := Go.Proofs.YtlcmjdkbeckdnaaTree.S_b HOq141 hb
          replace HOq170 := Go.Proofs.YtlcmjdkbeckdnaaTree.S_b HOq170 hb
          replace HOq204 := Go.Proofs.YtlcmjdkbeckdnaaTree.S_b HOq204 hb
          replace HOq218 := Go.Proofs.YtlcmjdkbeckdnaaTree.S_b HOq218 hb
          replace HOq291 := Go.Proofs.YtlcmjdkbeckdnaaTree.S_b HOq291 hb
          replace HOq295 := Go.Proofs.YtlcmjdkbeckdnaaTree.S_b HOq295 hb
          replace HKg1 := Go.Proofs.YtlcmjdkbeckdnaaTree.B_b HKg1 hb
          replace HKg4 := Go.Proofs.YtlcmjdkbeckdnaaTree.B_b HKg4 hb
          replace HKg90 := Go.Proofs.YtlcmjdkbeckdnaaTree.B_b HKg90 hb
          replace HKg119 := Go.Proofs.YtlcmjdkbeckdnaaTree.B_b HKg119 hb
          replace HKg144 := Go.Proofs.YtlcmjdkbeckdnaaTree.B_b HKg144 hb
          replace HKg173 := Go.Proofs.YtlcmjdkbeckdnaaTree.B_b HKg173 hb
          replace HS := Go.Proofs.YtlcmjdkbeckdnaaTree.Z_b HS hb
          replace HB := Go.Proofs.YtlcmjdkbeckdnaaTree.H_b HB hb
          have HKg305 := Aside0.mk hbox
          replace HS : Aside0 (g305 + 1 ≤ w306.heap.size) := ⟨blk_lt hbox⟩
          clear hg hbox hb
          refine hK.out _ _ ⟨(blk_cell HKg1.out 0).trans rfl, (blk_cell HKg1.out 1).trans rfl, (blk_cell HKg1.out 2).trans rfl, (blk_cell HKg1.out 3).trans rfl, (blk_cell HKg4.out 0).trans rfl, (blk_cell HKg4.out 1).trans rfl, (blk_cell HKg4.out 2).trans rfl, (blk_cell HKg4.out 3).trans rfl⟩ (fun hHeld => ?_)
          clear hK K
          refine norm_ (a' := ?_) ?_ ?_
          rotate_left
          · show Act.put _ (some 13) _ = _
            simp only [Act.put, List.setIfInBounds_toArray, List.set_cons_zero, List.set_cons_succ, i64_w, i32_w]
            rfl
          refine one_ (i := 4) (N := some 79) #[true, true, true, true, true, true, false] rfl rfl (by kernel_rfl) (by decide) (fun K hK => ?_)
          refine goes_ Try.func26 (by kernel_rfl) rfl #[.agg #[.int .i64 t276, .int .i64 t277, .int .i64 t278, .slice Aq291 t279.length cq291], .agg #[.int .i64 t281, .int .i64 t282, .int .i64 t283, .slice Aq295 t284.length cq295]] (by rfl) rfl rfl (by (try simp only [List.map_toArray, List.map_cons, List.map_nil]); first | done | rfl) ?_
          with_reducible refine (impl_CondOr.calls k t276 t277 t278 _ _ t279 t281 t282 t283 _ _ t284 t286 t287 t288 t289 _ ?side1 ?side2 ?side3 ?side4 E285.out).mono ?_
          (case side1 => exact (Kd.S_reads' HOq291.out).2.2)
          (case side2 => exact (Kd.S_reads' HOq291.out).2.1)
          (case side3 => exact (Kd.S_reads' HOq295.out).2.2)
          (case side4 => exact (Kd.S_reads' HOq295.out).2.1)
          rintro e w308 ⟨v_0, rfl, ho0, hb⟩
          obtain ⟨Aq309, cq309, rfl⟩ := Kd.S_slice ho0
          refine ⟨_, rfl, ?_⟩
          obtain ⟨Lq309, Uq309, HZ310, HZ311, HOq309⟩ := Go.Proofs.YtlcmjdkbeckdnaaTree.S_made ho0 HS.out hb HB.out.size
          replace HOq95 := Go.Proofs.YtlcmjdkbeckdnaaTree.S_b HOq95 hb
          replace HOq116 := Go.Proofs.YtlcmjdkbeckdnaaTree.S_b HOq116 hb
          replace HOq141 := Go.Proofs.YtlcmjdkbeckdnaaTree.S_b HOq141 hb
          replace HOq170 := Go.Proofs.YtlcmjdkbeckdnaaTree.S_b HOq170 hb
          replace HOq204 := Go.Proofs.YtlcmjdkbeckdnaaTree.S_b HOq204 hb
          replace HOq218 := Go.Proofs.YtlcmjdkbeckdnaaTree.S_b HOq218 hb
          replace HOq291 := Go.Proofs.YtlcmjdkbeckdnaaTree.S_b HOq291 hb
          replace HOq295 := Go.Proofs.YtlcmjdkbeckdnaaTree.S_b HOq295 hb
          replace HKg1 := Go.Proofs.YtlcmjdkbeckdnaaTree.B_b HKg1 hb
          replace HKg4 := Go.Proofs.YtlcmjdkbeckdnaaTree.B_b HKg4 hb
          replace HKg90 := Go.Proofs.YtlcmjdkbeckdnaaTree.B_b HKg90 hb
          replace HKg119 := Go.Proofs.YtlcmjdkbeckdnaaTree.B_b HKg119 hb
          replace HKg144 := Go.Proofs.YtlcmjdkbeckdnaaTree.B_b HKg144 hb
          replace HKg173 := Go.Proofs.YtlcmjdkbeckdnaaTree.B_b HKg173 hb
          replace HKg305 := Go.Proofs.YtlcmjdkbeckdnaaTree.B_b HKg305 hb
          replace HS := Go.Proofs.YtlcmjdkbeckdnaaTree.Z_b HS hb
          replace HB := Go.Proofs.YtlcmjdkbeckdnaaTree.H_b HB hb
          replace HS := HZ311
          clear ho0
          clear hb
          refine hK.out _ _ ⟨(blk_cell HKg1.out 0).trans rfl, (blk_cell HKg1.out 1).trans rfl, (blk_cell HKg1.out 2).trans rfl, (blk_cell HKg1.out 3).trans rfl, (blk_cell HKg4.out 0).trans rfl, (blk_cell HKg4.out 1).trans rfl, (blk_cell HKg4.out 2).trans rfl, (blk_cell HKg4.out 3).trans rfl⟩ (fun hHeld => ?_)
          clear hK K
          refine norm_ (a' := ?_) ?_ ?_
          rotate_left
          · show Act.put _ (some 79) _ = _
            simp only [Act.put, List.setIfInBounds_toArray, List.set_cons_zero, List.set_cons_succ, i64_w, i32_w]
            rfl
          have hcj : Uq218 ≤ Lq309 ∧ Lq309 ≤ Uq309 ∧ Uq309 ≤ w308.heap.size ∧ Uq218 ≤ g305 ∧ g305 + 1 ≤ w308.heap.size ∧ (g305 + 1 ≤ Lq309 ∨ Uq309 ≤ g305) ∧ w.heap.size ≤ g305 := (by have := HZ3.out; have := HZ6.out; have := HZ96.out; have := HZ117.out; have := HZ121.out; have := HZ142.out; have := HZ146.out; have := HZ171.out; have := HZ175.out; have := HZ205.out; have := HZ219.out; have := HZ292.out; have := HZ296.out; have := HZ307.out; have := HZ310.out; have := HS.out; omega)
          exact norm_ (by simp only [putAll, Act.put, List.setIfInBounds_toArray, List.set_cons_zero, List.set_cons_succ]) (hCont (.slice Aq291 t279.length cq291, .slice Aq295 t284.length cq295, .slice Aq309 t289.length cq309, g305, Lq309, Uq309, w308.heap.size) _ ⟨hHeld, HOq309.out, HOq95.out, HOq116.out, HOq141.out, HOq170.out, HOq204.out, HOq218.out, HKg1.out, HKg4.out, HKg90.out, HKg119.out, HKg144.out, HKg173.out, HKg305.out, hcj, Nat.le_refl _, HB.out⟩)
      · skip
        refine box_step ?hg (N := 13) ?hd (cs := #[.int .i64 0, .int .i64 0, .int .i64 0, .slice none 0 0]) (t := 29) ?hr ?_; (case hd => rfl); (case hg => rfl); (case hr => first | (go_simp; done) | (go_simp; rfl))
        intro g312 hg w313 hbox hb
        have HZ314 : Aside0 (Uq291 ≤ g312 ∧ w.heap.size ≤ g312) := ⟨by rw [hg]; exact ⟨HS.out, HB.out.size⟩⟩
        replace HOq95 := Go.Proofs.YtlcmjdkbeckdnaaTree.S_b HOq95 hb
        replace HOq116 := Go.Proofs.YtlcmjdkbeckdnaaTree.S_b HOq116 hb
        replace HOq141 := Go.Proofs.YtlcmjdkbeckdnaaTree.S_b HOq141 hb
        replace HOq170 := Go.Proofs.YtlcmjdkbeckdnaaTree.S_b HOq170 hb
        replace HOq204 := Go.Proofs.YtlcmjdkbeckdnaaTree.S_b HOq204 hb
        replace HOq218 := Go.Proofs.YtlcmjdkbeckdnaaTree.S_b HOq218 hb
        replace HOq291 := Go.Proofs.YtlcmjdkbeckdnaaTree.S_b HOq291 hb
        replace HKg1 := Go.Proofs.YtlcmjdkbeckdnaaTree.B_b HKg1 hb
        replace HKg4 := Go.Proofs.YtlcmjdkbeckdnaaTree.B_b HKg4 hb
        replace HKg90 := Go.Proofs.YtlcmjdkbeckdnaaTree.B_b HKg90 hb
        replace HKg119 := Go.Proofs.YtlcmjdkbeckdnaaTree.B_b HKg119 hb
        replace HKg144 := Go.Proofs.YtlcmjdkbeckdnaaTree.B_b HKg144 hb
        replace HKg173 := Go.Proofs.YtlcmjdkbeckdnaaTree.B_b HKg173 hb
        replace HS := Go.Proofs.YtlcmjdkbeckdnaaTree.Z_b HS hb
        replace HB := Go.Proofs.YtlcmjdkbeckdnaaTree.H_b HB hb
        have HKg312 := Aside0.mk hbox
        replace HS : Aside0 (g312 + 1 ≤ w313.heap.size) := ⟨blk_lt hbox⟩
        clear hg hbox hb
        refine hK.out _ _ ⟨(blk_cell HKg1.out 0).trans rfl, (blk_cell HKg1.out 1).trans rfl, (blk_cell HKg1.out 2).trans rfl, (blk_cell HKg1.out 3).trans rfl, (blk_cell HKg4.out 0).trans rfl, (blk_cell HKg4.out 1).trans rfl, (blk_cell HKg4.out 2).trans rfl, (blk_cell HKg4.out 3).trans rfl⟩ (fun hHeld => ?_)
        clear hK K
        refine norm_ (a' := ?_) ?_ ?_
        rotate_left
        · show Act.put _ (some 13) _ = _
          simp only [Act.put, List.setIfInBounds_toArray, List.set_cons_zero, List.set_cons_succ, i64_w, i32_w]
          rfl
        refine one_ (i := 3) (N := some 78) #[true, true, true, true, false, true, false] rfl rfl (by kernel_rfl) (by decide) (fun K hK => ?_)
        refine goes_ Try.func14 (by kernel_rfl) rfl #[.agg #[.int .i64 a1_0, .int .i64 a1_1, .int .i64 a1_2, .slice A1_3 l1_3.length c1_3]] (by rfl) rfl rfl (by (try simp only [List.map_toArray, List.map_cons, List.map_nil]); first | done | rfl) ?_
        with_reducible refine (laws_toCond.calls k a1_0 a1_1 a1_2 _ _ l1_3 t281 t282 t283 t284 _ ?side1 ?side2 E280.out).mono ?_
        (case side1 => exact Kd.C_below HR1_3.out HB.out)
        (case side2 => exact HC1_3.out)
        rintro e w315 ⟨v_0, rfl, ho0, hb⟩
        obtain ⟨Aq316, cq316, rfl⟩ := Kd.S_slice ho0
        refine ⟨_, rfl, ?_⟩
        obtain ⟨Lq316, Uq316, HZ317, HZ318, HOq316⟩ := Go.Proofs.YtlcmjdkbeckdnaaTree.S_made ho0 HS.out hb HB.out.size
        replace HOq95 := Go.Proofs.YtlcmjdkbeckdnaaTree.S_b HOq95 hb
        replace HOq116 := Go.Proofs.YtlcmjdkbeckdnaaTree.S_b HOq116 hb
        replace HOq141 := Go.Proofs.YtlcmjdkbeckdnaaTree.S_b HOq141 hb
        replace HOq170 := Go.Proofs.YtlcmjdkbeckdnaaTree.S_b HOq170 hb
        replace HOq204 := Go.Proofs.YtlcmjdkbeckdnaaTree.S_b HOq204 hb
        replace HOq218 := Go.Proofs.YtlcmjdkbeckdnaaTree.S_b HOq218 hb
        replace HOq291 := Go.Proofs.YtlcmjdkbeckdnaaTree.S_b HOq291 hb
        replace HKg1 := Go.Proofs.YtlcmjdkbeckdnaaTree.B_b HKg1 hb
        replace HKg4 := Go.Proofs.YtlcmjdkbeckdnaaTree.B_b HKg4 hb
        replace HKg90 := Go.Proofs.YtlcmjdkbeckdnaaTree.B_b HKg90 hb
        replace HKg119 := Go.Proofs.YtlcmjdkbeckdnaaTree.B_b HKg119 hb
        replace HKg144 := Go.Proofs.YtlcmjdkbeckdnaaTree.B_b HKg144 hb
        replace HKg173 := Go.Proofs.YtlcmjdkbeckdnaaTree.B_b HKg173 hb
        replace HKg312 := Go.Proofs.YtlcmjdkbeckdnaaTree.B_b HKg312 hb
        replace HS := Go.Proofs.YtlcmjdkbeckdnaaTree.Z_b HS hb
        replace HB := Go.Proofs.YtlcmjdkbeckdnaaTree.H_b HB hb
        replace HS := HZ318
        clear ho0
        clear hb
        refine hK.out _ _ ⟨(blk_cell HKg1.out 0).trans rfl, (blk_cell HKg1.out 1).trans rfl, (blk_cell HKg1.out 2).trans rfl, (blk_cell HKg1.out 3).trans rfl, (blk_cell HKg4.out 0).trans rfl, (blk_cell HKg4.out 1).trans rfl, (blk_cell HKg4.out 2).trans rfl, (blk_cell HKg4.out 3).trans rfl⟩ (fun hHeld => ?_)
        clear hK K
        refine norm_ (a' := ?_) ?_ ?_
        rotate_left
        · show Act.put _ (some 78) _ = _
          simp only [Act.put, List.setIfInBounds_toArray, List.set_cons_zero, List.set_cons_succ, i64_w, i32_w]
          rfl
        refine one_ (i := 4) (N := some 79) #[true, true, true, true, true, true, false] rfl rfl (by kernel_rfl) (by decide) (fun K hK => ?_)
        refine goes_ Try.func26 (by kernel_rfl) rfl #[.agg #[.int .i64 t276, .int .i64 t277, .int .i64 t278, .slice Aq291 t279.length cq291], .agg #[.int .i64 t281, .int .i64 t282, .int .i64 t283, .slice Aq316 t284.length cq316]] (by rfl) rfl rfl (by (try simp only [List.map_toArray, List.map_cons, List.map_nil]); first | done | rfl) ?_
        with_reducible refine (impl_CondOr.calls k t276 t277 t278 _ _ t279 t281 t282 t283 _ _ t284 t286 t287 t288 t289 _ ?side1 ?side2 ?side3 ?side4 E285.out).mono ?_
        (case side1 => exact (Kd.S_reads' HOq291.out).2.2)
        (case side2 => exact (Kd.S_reads' HOq291.out).2.1)
        (case side3 => exact (Kd.S_reads' HOq316.out).2.2)
        (case side4 => exact (Kd.S_reads' HOq316.out).2.1)
        rintro e w319 ⟨v_0, rfl, ho0, hb⟩
        obtain ⟨Aq320, cq320, rfl⟩ := Kd.S_slice ho0
        refine ⟨_, rfl, ?_⟩
        obtain ⟨Lq320, Uq320, HZ321, HZ322, HOq320⟩ := Go.Proofs.YtlcmjdkbeckdnaaTree.S_made ho0 HS.out hb HB.out.size
        replace HOq95 := Go.Proofs.YtlcmjdkbeckdnaaTree.S_b HOq95 hb
        replace HOq116 := Go.Proofs.YtlcmjdkbeckdnaaTree.S_b HOq116 hb
        replace HOq141 := Go.Proofs.YtlcmjdkbeckdnaaTree.S_b HOq141 hb
        replace HOq170 := Go.Proofs.YtlcmjdkbeckdnaaTree.S_b HOq170 hb
        replace HOq204 := Go.Proofs.YtlcmjdkbeckdnaaTree.S_b HOq204 hb
        replace HOq218 := Go.Proofs.YtlcmjdkbeckdnaaTree.S_b HOq218 hb
        replace HOq291 := Go.Proofs.YtlcmjdkbeckdnaaTree.S_b HOq291 hb
        replace HOq316 := Go.Proofs.YtlcmjdkbeckdnaaTree.S_b HOq316 hb
        replace HKg1 := Go.Proofs.YtlcmjdkbeckdnaaTree.B_b HKg1 hb
        replace HKg4 := Go.Proofs.YtlcmjdkbeckdnaaTree.B_b HKg4 hb
        replace HKg90 := Go.Proofs.YtlcmjdkbeckdnaaTree.B_b HKg90 hb
        replace HKg119 := Go.Proofs.YtlcmjdkbeckdnaaTree.B_b HKg119 hb
        replace HKg144 := Go.Proofs.YtlcmjdkbeckdnaaTree.B_b HKg144 hb
        replace HKg173 := Go.Proofs.YtlcmjdkbeckdnaaTree.B_b HKg173 hb
        replace HKg312 := Go.Proofs.YtlcmjdkbeckdnaaTree.B_b HKg312 hb
        replace HS := Go.Proofs.YtlcmjdkbeckdnaaTree.Z_b HS hb
        replace HB := Go.Proofs.YtlcmjdkbeckdnaaTree.H_b HB hb
        replace HS := HZ322
        clear ho0
        clear hb
        refine hK.out _ _ ⟨(blk_cell HKg1.out 0).trans rfl, (blk_cell HKg1.out 1).trans rfl, (blk_cell HKg1.out 2).trans rfl, (blk_cell HKg1.out 3).trans rfl, (blk_cell HKg4.out 0).trans rfl, (blk_cell HKg4.out 1).trans rfl, (blk_cell HKg4.out 2).trans rfl, (blk_cell HKg4.out 3).trans rfl⟩ (fun hHeld => ?_)
        clear hK K
        refine norm_ (a' := ?_) ?_ ?_
        rotate_left
        · show Act.put _ (some 79) _ = _
          simp only [Act.put, List.setIfInBounds_toArray, List.set_cons_zero, List.set_cons_succ, i64_w, i32_w]
          rfl
        have hcj : Uq218 ≤ Lq320 ∧ Lq320 ≤ Uq320 ∧ Uq320 ≤ w319.heap.size ∧ Uq218 ≤ g312 ∧ g312 + 1 ≤ w319.heap.size ∧ (g312 + 1 ≤ Lq320 ∨ Uq320 ≤ g312) ∧ w.heap.size ≤ g312 := (by have := HZ3.out; have := HZ6.out; have := HZ96.out; have := HZ117.out; have := HZ121.out; have := HZ142.out; have := HZ146.out; have := HZ171.out; have := HZ175.out; have := HZ205.out; have := HZ219.out; have := HZ292.out; have := HZ314.out; have := HZ317.out; have := HZ321.out; have := HS.out; omega)
        exact norm_ (by simp only [putAll, Act.put, List.setIfInBounds_toArray, List.set_cons_zero, List.set_cons_succ]) (hCont (.slice Aq291 t279.length cq291, .slice Aq316 t284.length cq316, .slice Aq320 t289.length cq320, g312, Lq320, Uq320, w319.heap.size) _ ⟨hHeld, HOq320.out, HOq95.out, HOq116.out, HOq141.out, HOq170.out, HOq204.out, HOq218.out, HKg1.out, HKg4.out, HKg90.out, HKg119.out, HKg144.out, HKg173.out, HKg312.out, hcj, Nat.le_refl _, HB.out⟩)
    · skip
      refine box_step ?hg (N := 13) ?hd (cs := #[.int .i64 0, .int .i64 0, .int .i64 0, .slice none 0 0]) (t := 29) ?hr ?_; (case hd => rfl); (case hg => rfl); (case hr => first | (go_simp; done) | (go_simp; rfl))
      intro g323 hg w324 hbox hb
      have HZ325 : Aside0 (Uq218 ≤ g323 ∧ w.heap.size ≤ g323) := ⟨by rw [hg]; exact ⟨HS.out, HB.out.size⟩⟩
      replace HOq95 := Go.Proofs.YtlcmjdkbeckdnaaTree.S_b HOq95 hb
      replace HOq116 := Go.Proofs.YtlcmjdkbeckdnaaTree.S_b HOq116 hb
      replace HOq141 := Go.Proofs.YtlcmjdkbeckdnaaTree.S_b HOq141 hb
      replace HOq170 := Go.Proofs.YtlcmjdkbeckdnaaTree.S_b HOq170 hb
      replace HOq204 := Go.Proofs.YtlcmjdkbeckdnaaTree.S_b HOq204 hb
      replace HOq218 := Go.Proofs.YtlcmjdkbeckdnaaTree.S_b HOq218 hb
      replace HKg1 := Go.Proofs.YtlcmjdkbeckdnaaTree.B_b HKg1 hb
      replace HKg4 := Go.Proofs.YtlcmjdkbeckdnaaTree.B_b HKg4 hb
      replace HKg90 := Go.Proofs.YtlcmjdkbeckdnaaTree.B_b HKg90 hb
      replace HKg119 := Go.Proofs.YtlcmjdkbeckdnaaTree.B_b HKg119 hb
      replace HKg144 := Go.Proofs.YtlcmjdkbeckdnaaTree.B_b HKg144 hb
      replace HKg173 := Go.Proofs.YtlcmjdkbeckdnaaTree.B_b HKg173 hb
      replace HS := Go.Proofs.YtlcmjdkbeckdnaaTree.Z_b HS hb
      replace HB := Go.Proofs.YtlcmjdkbeckdnaaTree.H_b HB hb
      have HKg323 := Aside0.mk hbox
      replace HS : Aside0 (g323 + 1 ≤ w324.heap.size) := ⟨blk_lt hbox⟩
      clear hg hbox hb
      refine hK.out _ _ ⟨(blk_cell HKg1.out 0).trans rfl, (blk_cell HKg1.out 1).trans rfl, (blk_cell HKg1.out 2).trans rfl, (blk_cell HKg1.out 3).trans rfl, (blk_cell HKg4.out 0).trans rfl, (blk_cell HKg4.out 1).trans rfl, (blk_cell HKg4.out 2).trans rfl, (blk_cell HKg4.out 3).trans rfl⟩ (fun hHeld => ?_)
      clear hK K
      refine norm_ (a' := ?_) ?_ ?_
      rotate_left
      · show Act.put _ (some 13) _ = _
        simp only [Act.put, List.setIfInBounds_toArray, List.set_cons_zero, List.set_cons_succ, i64_w, i32_w]
        rfl
      refine one_ (i := 1) (N := some 76) #[true, true, true, false, false, true, false] rfl rfl (by kernel_rfl) (by decide) (fun K hK => ?_)
      refine goes_ Try.func14 (by kernel_rfl) rfl #[.agg #[.int .i64 a0_0, .int .i64 a0_1, .int .i64 a0_2, .slice A0_3 l0_3.length c0_3]] (by rfl) rfl rfl (by (try simp only [List.map_toArray, List.map_cons, List.map_nil]); first | done | rfl) ?_
      with_reducible refine (laws_toCond.calls k a0_0 a0_1 a0_2 _ _ l0_3 t276 t277 t278 t279 _ ?side1 ?side2 E275.out).mono ?_
      (case side1 => exact Kd.C_below HR0_3.out HB.out)
      (case side2 => exact HC0_3.out)
      rintro e w326 ⟨v_0, rfl, ho0, hb⟩
      obtain ⟨Aq327, cq327, rfl⟩ := Kd.S_slice ho0
      refine ⟨_, rfl, ?_⟩
      obtain ⟨Lq327, Uq327, HZ328, HZ329, HOq327⟩ := Go.Proofs.YtlcmjdkbeckdnaaTree.S_made ho0 HS.out hb HB.out.size
      replace HOq95 := Go.Proofs.YtlcmjdkbeckdnaaTree.S_b HOq95 hb
      replace HOq116 := Go.Proofs.YtlcmjdkbeckdnaaTree.S_b HOq116 hb
      replace HOq141 := Go.Proofs.YtlcmjdkbeckdnaaTree.S_b HOq141 hb
      replace HOq170 := Go.Proofs.YtlcmjdkbeckdnaaTree.S_b HOq170 hb
      replace HOq204 := Go.Proofs.YtlcmjdkbeckdnaaTree.S_b HOq204 hb
      replace HOq218 := Go.Proofs.YtlcmjdkbeckdnaaTree.S_b HOq218 hb
      replace HKg1 := Go.Proofs.YtlcmjdkbeckdnaaTree.B_b HKg1 hb
      replace HKg4 := Go.Proofs.YtlcmjdkbeckdnaaTree.B_b HKg4 hb
      replace HKg90 := Go.Proofs.YtlcmjdkbeckdnaaTree.B_b HKg90 hb
      replace HKg119 := Go.Proofs.YtlcmjdkbeckdnaaTree.B_b HKg119 hb
      replace HKg144 := Go.Proofs.YtlcmjdkbeckdnaaTree.B_b HKg144 hb
      replace HKg173 := Go.Proofs.YtlcmjdkbeckdnaaTree.B_b HKg173 hb
      replace HKg323 := Go.Proofs.YtlcmjdkbeckdnaaTree.B_b HKg323 hb
      replace HS := Go.Proofs.YtlcmjdkbeckdnaaTree.Z_b HS hb
      replace HB := Go.Proofs.YtlcmjdkbeckdnaaTree.H_b HB hb
      replace HS := HZ329
      clear ho0
      clear hb
      refine hK.out _ _ ⟨(blk_cell HKg1.out 0).trans rfl, (blk_cell HKg1.out 1).trans rfl, (blk_cell HKg1.out 2).trans rfl, (blk_cell HKg1.out 3).trans rfl, (blk_cell HKg4.out 0).trans rfl, (blk_cell HKg4.out 1).trans rfl, (blk_cell HKg4.out 2).trans rfl, (blk_cell HKg4.out 3).trans rfl⟩ (fun hHeld => ?_)
      clear hK K
      refine norm_ (a' := ?_) ?_ ?_
      rotate_left
      · show Act.put _ (some 76) _ = _
        simp only [Act.put, List.setIfInBounds_toArray, List.set_cons_zero, List.set_cons_succ, i64_w, i32_w]
        rfl
      refine one_ (i := 3) (N := some 78) #[true, true, true, true, false, true, false] rfl rfl (by kernel_rfl) (by decide) (fun K hK => ?_)
      refine goes_ Try.func14 (by kernel_rfl) rfl #[.agg #[.int .i64 a1_0, .int .i64 a1_1, .int .i64 a1_2, .slice A1_3 l1_3.length c1_3]] (by rfl) rfl rfl (by (try simp only [List.map_toArray, List.map_cons, List.map_nil]); first | done | rfl) ?_
      with_reducible refine (laws_toCond.calls k a1_0 a1_1 a1_2 _ _ l1_3 t281 t282 t283 t284 _ ?side1 ?side2 E280.out).mono ?_
      (case side1 => exact Kd.C_below HR1_3.out HB.out)
      (case side2 => exact HC1_3.out)
      rintro e w330 ⟨v_0, rfl, ho0, hb⟩
      obtain ⟨Aq331, cq331, rfl⟩ := Kd.S_slice ho0
      refine ⟨_, rfl, ?_⟩
      obtain ⟨Lq331, Uq331, HZ332, HZ333, HOq331⟩ := Go.Proofs.YtlcmjdkbeckdnaaTree.S_made ho0 HS.out hb HB.out.size
      replace HOq95 := Go.Proofs.YtlcmjdkbeckdnaaTree.S_b HOq95 hb
      replace HOq116 := Go.Proofs.YtlcmjdkbeckdnaaTree.S_b HOq116 hb
      replace HOq141 := Go.Proofs.YtlcmjdkbeckdnaaTree.S_b HOq141 hb
      replace HOq170 := Go.Proofs.YtlcmjdkbeckdnaaTree.S_b HOq170 hb
      replace HOq204 := Go.Proofs.YtlcmjdkbeckdnaaTree.S_b HOq204 hb
      replace HOq218 := Go.Proofs.YtlcmjdkbeckdnaaTree.S_b HOq218 hb
      replace HOq327 := Go.Proofs.YtlcmjdkbeckdnaaTree.S_b HOq327 hb
      replace HKg1 := Go.Proofs.YtlcmjdkbeckdnaaTree.B_b HKg1 hb
      replace HKg4 := Go.Proofs.YtlcmjdkbeckdnaaTree.B_b HKg4 hb
      replace HKg90 := Go.Proofs.YtlcmjdkbeckdnaaTree.B_b HKg90 hb
      replace HKg119 := Go.Proofs.YtlcmjdkbeckdnaaTree.B_b HKg119 hb
      replace HKg144 := Go.Proofs.YtlcmjdkbeckdnaaTree.B_b HKg144 hb
      replace HKg173 := Go.Proofs.YtlcmjdkbeckdnaaTree.B_b HKg173 hb
      replace HKg323 := Go.Proofs.YtlcmjdkbeckdnaaTree.B_b HKg323 hb
      replace HS := Go.Proofs.YtlcmjdkbeckdnaaTree.Z_b HS hb
      replace HB := Go.Proofs.YtlcmjdkbeckdnaaTree.H_b HB hb
      replace HS := HZ333
      clear ho0
      clear hb
      refine hK.out _ _ ⟨(blk_cell HKg1.out 0).trans rfl, (blk_cell HKg1.out 1).trans rfl, (blk_cell HKg1.out 2).trans rfl, (blk_cell HKg1.out 3).trans rfl, (blk_cell HKg4.out 0).trans rfl, (blk_cell HKg4.out 1).trans rfl, (blk_cell HKg4.out 2).trans rfl, (blk_cell HKg4.out 3).trans rfl⟩ (fun hHeld => ?_)
      clear hK K
      refine norm_ (a' := ?_) ?_ ?_
      rotate_left
      · show Act.put _ (some 78) _ = _
        simp only [Act.put, List.setIfInBounds_toArray, List.set_cons_zero, List.set_cons_succ, i64_w, i32_w]
        rfl
      refine one_ (i := 4) (N := some 79) #[true, true, true, true, true, true, false] rfl rfl (by kernel_rfl) (by decide) (fun K hK => ?_)
      refine goes_ Try.func26 (by kernel_rfl) rfl #[.agg #[.int .i64 t276, .int .i64 t277, .int .i64 t278, .slice Aq327 t279.length cq327], .agg #[.int .i64 t281, .int .i64 t282, .int .i64 t283, .slice Aq331 t284.length cq331]] (by rfl) rfl rfl (by (try simp only [List.map_toArray, List.map_cons, List.map_nil]); first | done | rfl) ?_
      with_reducible refine (impl_CondOr.calls k t276 t277 t278 _ _ t279 t281 t282 t283 _ _ t284 t286 t287 t288 t289 _ ?side1 ?side2 ?side3 ?side4 E285.out).mono ?_
      (case side1 => exact (Kd.S_reads' HOq327.out).2.2)
      (case side2 => exact (Kd.S_reads' HOq327.out).2.1)
      (case side3 => exact (Kd.S_reads' HOq331.out).2.2)
      (case side4 => exact (Kd.S_reads' HOq331.out).2.1)
      rintro e w334 ⟨v_0, rfl, ho0, hb⟩
      obtain ⟨Aq335, cq335, rfl⟩ := Kd.S_slice ho0
      refine ⟨_, rfl, ?_⟩
      obtain ⟨Lq335, Uq335, HZ336, HZ337, HOq335⟩ := Go.Proofs.YtlcmjdkbeckdnaaTree.S_made ho0 HS.out hb HB.out.size
      replace HOq95 := Go.Proofs.YtlcmjdkbeckdnaaTree.S_b HOq95 hb
      replace HOq116 := Go.Proofs.YtlcmjdkbeckdnaaTree.S_b HOq116 hb
      replace HOq141 := Go.Proofs.YtlcmjdkbeckdnaaTree.S_b HOq141 hb
      replace HOq170 := Go.Proofs.YtlcmjdkbeckdnaaTree.S_b HOq170 hb
      replace HOq204 := Go.Proofs.YtlcmjdkbeckdnaaTree.S_b HOq204 hb
      replace HOq218 := Go.Proofs.YtlcmjdkbeckdnaaTree.S_b HOq218 hb
      replace HOq327 := Go.Proofs.YtlcmjdkbeckdnaaTree.S_b HOq327 hb
      replace HOq331 := Go.Proofs.YtlcmjdkbeckdnaaTree.S_b HOq331 hb
      replace HKg1 := Go.Proofs.YtlcmjdkbeckdnaaTree.B_b HKg1 hb
      replace HKg4 := Go.Proofs.YtlcmjdkbeckdnaaTree.B_b HKg4 hb
      replace HKg90 := Go.Proofs.YtlcmjdkbeckdnaaTree.B_b HKg90 hb
      replace HKg119 := Go.Proofs.YtlcmjdkbeckdnaaTree.B_b HKg119 hb
      replace HKg144 := Go.Proofs.YtlcmjdkbeckdnaaTree.B_b HKg144 hb
      replace HKg173 := Go.Proofs.YtlcmjdkbeckdnaaTree.B_b HKg173 hb
      replace HKg323 := Go.Proofs.YtlcmjdkbeckdnaaTree.B_b HKg323 hb
      replace HS := Go.Proofs.YtlcmjdkbeckdnaaTree.Z_b HS hb
      replace HB := Go.Proofs.YtlcmjdkbeckdnaaTree.H_b HB hb
      replace HS := HZ337
      clear ho0
      clear hb
      refine hK.out _ _ ⟨(blk_cell HKg1.out 0).trans rfl, (blk_cell HKg1.out 1).trans rfl, (blk_cell HKg1.out 2).trans rfl, (blk_cell HKg1.out 3).trans rfl, (blk_cell HKg4.out 0).trans rfl, (blk_cell HKg4.out 1).trans rfl, (blk_cell HKg4.out 2).trans rfl, (blk_cell HKg4.out 3).trans rfl⟩ (fun hHeld => ?_)
      clear hK K
      refine norm_ (a' := ?_) ?_ ?_
      rotate_left
      · show Act.put _ (some 79) _ = _
        simp only [Act.put, List.setIfInBounds_toArray, List.set_cons_zero, List.set_cons_succ, i64_w, i32_w]
        rfl
      have hcj : Uq218 ≤ Lq335 ∧ Lq335 ≤ Uq335 ∧ Uq335 ≤ w334.heap.size ∧ Uq218 ≤ g323 ∧ g323 + 1 ≤ w334.heap.size ∧ (g323 + 1 ≤ Lq335 ∨ Uq335 ≤ g323) ∧ w.heap.size ≤ g323 := (by have := HZ3.out; have := HZ6.out; have := HZ96.out; have := HZ117.out; have := HZ121.out; have := HZ142.out; have := HZ146.out; have := HZ171.out; have := HZ175.out; have := HZ205.out; have := HZ219.out; have := HZ325.out; have := HZ328.out; have := HZ332.out; have := HZ336.out; have := HS.out; omega)
      exact norm_ (by simp only [putAll, Act.put, List.setIfInBounds_toArray, List.set_cons_zero, List.set_cons_succ]) (hCont (.slice Aq327 t279.length cq327, .slice Aq331 t284.length cq331, .slice Aq335 t289.length cq335, g323, Lq335, Uq335, w334.heap.size) _ ⟨hHeld, HOq335.out, HOq95.out, HOq116.out, HOq141.out, HOq170.out, HOq204.out, HOq218.out, HKg1.out, HKg4.out, HKg90.out, HKg119.out, HKg144.out, HKg173.out, HKg323.out, hcj, Nat.le_refl _, HB.out⟩)
  rintro ⟨u338, u339, u340, g341, L342, U343, M344⟩ w345 ⟨hS_, h0_, h1_, h2_, h3_, h4_, h5_, h6_, h7_, h8_, h9_, h10_, h11_, h12_, h13_, h14_, h15_, h16_⟩
  clear HOq95 HOq116 HOq141 HOq170 HOq204 HOq218 HKg1 HKg4 HKg90 HKg119 HKg144 HKg173 HS HB hHeld
  have HOq346 : Aside0 (Kd.S k29 29 w345 w.heap.size (fun x => L342 ≤ x ∧ x < U343) u340 t289) := ⟨h0_⟩
  have HOq95 : Aside0 (Kd.S k29 29 w345 w.heap.size (fun x => L91 ≤ x ∧ x < U92) (.slice Aq95 t38.length cq95) t38) := ⟨h1_⟩
  have HOq116 : Aside0 (Kd.S k29 29 w345 w.heap.size (fun x => Lq116 ≤ x ∧ x < Uq116) (.slice Aq116 t114.length cq116) t231) := ⟨h2_⟩
  have HOq141 : Aside0 (Kd.S k29 29 w345 w.heap.size (fun x => Lq141 ≤ x ∧ x < Uq141) (.slice Aq141 t139.length cq141) t240) := ⟨h3_⟩
  have HOq170 : Aside0 (Kd.S k29 29 w345 w.heap.size (fun x => Lq170 ≤ x ∧ x < Uq170) (.slice Aq170 t168.length cq170) t262) := ⟨h4_⟩
  have HOq204 : Aside0 (Kd.S k29 29 w345 w.heap.size (fun x => Lq204 ≤ x ∧ x < Uq204) (.slice Aq204 t202.length cq204) t202) := ⟨h5_⟩
  have HOq218 : Aside0 (Kd.S k29 29 w345 w.heap.size (fun x => Lq218 ≤ x ∧ x < Uq218) (.slice Aq218 t216.length cq218) t216) := ⟨h6_⟩
  have HKg1 : Aside0 (w345.heap[g1]? = some (.cells #[.int .i64 a0_0, .int .i64 a0_1, .int .i64 a0_2, .slice A0_3 l0_3.length c0_3] 24 (0, 0))) := ⟨h7_⟩
  have HKg4 : Aside0 (w345.heap[g4]? = some (.cells #[.int .i64 a1_0, .int .i64 a1_1, .int .i64 a1_2, .slice A1_3 l1_3.length c1_3] 24 (0, 0))) := ⟨h8_⟩
  have HKg90 : Aside0 (w345.heap[g90]? = some (.cells #[.int .i64 t35, .int .i64 t36, .int .i64 t37, .slice Aq95 t38.length cq95] 29 (0, 0))) := ⟨h9_⟩
  have HKg119 : Aside0 (w345.heap[g119]? = some (.cells #[.int .i64 t111, .int .i64 t112, .int .i64 t113, .slice Aq116 t114.length cq116] 29 (0, 0))) := ⟨h10_⟩
  have HKg144 : Aside0 (w345.heap[g144]? = some (.cells #[.int .i64 t136, .int .i64 t137, .int .i64 t138, .slice Aq141 t139.length cq141] 29 (0, 0))) := ⟨h11_⟩
  have HKg173 : Aside0 (w345.heap[g173]? = some (.cells #[.int .i64 t165, .int .i64 t166, .int .i64 t167, .slice Aq170 t168.length cq170] 29 (0, 0))) := ⟨h12_⟩
  have HKg341 : Aside0 (w345.heap[g341]? = some (.cells #[.int .i64 0, .int .i64 0, .int .i64 0, .slice none 0 0] 29 (0, 0))) := ⟨h13_⟩
  have HZ347 : Aside0 ((Uq218 ≤ L342 ∧ L342 ≤ U343 ∧ U343 ≤ M344 ∧ Uq218 ≤ g341 ∧ g341 + 1 ≤ M344 ∧ (g341 + 1 ≤ L342 ∨ U343 ≤ g341) ∧ w.heap.size ≤ g341)) := ⟨h14_⟩
  have HS : Aside0 (M344 ≤ w345.heap.size) := ⟨h15_⟩
  have HB : Aside0 (Below w.heap.size w w345) := ⟨h16_⟩
  have hHeld : w345.cell? ⟨g1, 0, none⟩ = some (.int .i64 a0_0) ∧ w345.cell? ⟨g1, 1, none⟩ = some (.int .i64 a0_1) ∧ w345.cell? ⟨g1, 2, none⟩ = some (.int .i64 a0_2) ∧ w345.cell? ⟨g1, 3, none⟩ = some (.slice A0_3 l0_3.length c0_3) ∧ w345.cell? ⟨g4, 0, none⟩ = some (.int .i64 a1_0) ∧ w345.cell? ⟨g4, 1, none⟩ = some (.int .i64 a1_1) ∧ w345.cell? ⟨g4, 2, none⟩ = some (.int .i64 a1_2) ∧ w345.cell? ⟨g4, 3, none⟩ = some (.slice A1_3 l1_3.length c1_3) := hS_
  clear hS_ h0_ h1_ h2_ h3_ h4_ h5_ h6_ h7_ h8_ h9_ h10_ h11_ h12_ h13_ h14_ h15_ h16_
  obtain ⟨Aq346, cq346, rfl⟩ := Kd.S_slice HOq346.out
  refine norm_ (a' := ?_) ?_ ?_
  rotate_left
  · simp only [putAll, Act.put, List.setIfInBounds_toArray, List.set_cons_zero, List.set_cons_succ]
    rfl
  refine one_ (i := 6) (N := none) #[true, true, true, true, true, true, true] rfl rfl (by kernel_rfl) (by decide) (fun K hK => ?_)
  have hc349 : w345.cell? ⟨g341, 0, none⟩ = some (.int .i64 0) := (blk_cell HKg341.out 0).trans rfl
  have hf350 := blk_frozen HKg341.out 0
  have hc351 : w345.cell? ⟨g341, 1, none⟩ = some (.int .i64 0) := (blk_cell HKg341.out 1).trans rfl
  have hf352 := blk_frozen HKg341.out 1
  have hc353 : w345.cell? ⟨g341, 2, none⟩ = some (.int .i64 0) := (blk_cell HKg341.out 2).trans rfl
  have hf354 := blk_frozen HKg341.out 2
  have hc355 : w345.cell? ⟨g341, 3, none⟩ = some (.slice none 0 0) := (blk_cell HKg341.out 3).trans rfl
  have hf356 := blk_frozen HKg341.out 3
  refine skip_ (w1 := ((((w345.setCell ⟨g341, 0, none⟩ (.int .i64 t286)).setCell ⟨g341, 1, none⟩ (.int .i64 t287)).setCell ⟨g341, 2, none⟩ (.int .i64 t288)).setCell ⟨g341, 3, none⟩ (.slice Aq346 t289.length cq346))) (by rfl) rfl ?_ ?_
  · first | (go_simp; done) | (go_simp; rfl)
  obtain ⟨w348, hw⟩ : ∃ x, x = ((((w345.setCell ⟨g341, 0, none⟩ (.int .i64 t286)).setCell ⟨g341, 1, none⟩ (.int .i64 t287)).setCell ⟨g341, 2, none⟩ (.int .i64 t288)).setCell ⟨g341, 3, none⟩ (.slice Aq346 t289.length cq346)) := ⟨_, rfl⟩
  rw [← hw]
  (try clear hc349 hf350 hc351 hf352 hc353 hf354 hc355 hf356)
  have hge_ : w.heap.size ≤ g341 := (by have := HZ3.out; have := HZ6.out; have := HZ96.out; have := HZ117.out; have := HZ121.out; have := HZ142.out; have := HZ146.out; have := HZ171.out; have := HZ175.out; have := HZ205.out; have := HZ219.out; have := HZ347.out; omega)
  have hk : Kept w345 w348 (fun x => x = g341) := (by rw [hw]; exact Go.Proofs.YtlcmjdkbeckdnaaTree.kept_cell (Go.Proofs.YtlcmjdkbeckdnaaTree.kept_cell (Go.Proofs.YtlcmjdkbeckdnaaTree.kept_cell (Go.Proofs.YtlcmjdkbeckdnaaTree.kept_cell (Kept.refl _ _) 0 _) 1 _) 2 _) 3 _)
  replace HB : Aside0 (Below w.heap.size w w348) := ⟨by rw [hw]; exact below_set (below_set (below_set (below_set (HB.out) hge_) hge_) hge_) hge_⟩
  replace HKg341 : Aside0 (w348.heap[g341]? = some (.cells #[.int .i64 t286, .int .i64 t287, .int .i64 t288, .slice Aq346 t289.length cq346] 29 (0, 0))) := ⟨by rw [hw]; exact blk_put (cs := #[.int .i64 t286, .int .i64 t287, .int .i64 t288, .slice none 0 0]) (blk_put (cs := #[.int .i64 t286, .int .i64 t287, .int .i64 0, .slice none 0 0]) (blk_put (cs := #[.int .i64 t286, .int .i64 0, .int .i64 0, .slice none 0 0]) (blk_put (cs := #[.int .i64 0, .int .i64 0, .int .i64 0, .slice none 0 0]) (HKg341.out) 0 _ rfl) 1 _ rfl) 2 _ rfl) 3 _ rfl⟩
  replace HOq95 := Go.Proofs.YtlcmjdkbeckdnaaTree.S_k HOq95 hk (fun x h1 h2 => (by have := HZ3.out; have := HZ6.out; have := HZ96.out; have := HZ117.out; have := HZ121.out; have := HZ142.out; have := HZ146.out; have := HZ171.out; have := HZ175.out; have := HZ205.out; have := HZ219.out; have := HZ347.out; have h3_ : L91 ≤ x ∧ x < U92 := h1; have h4_ : x = g341 := h2; omega))
  replace HOq116 := Go.Proofs.YtlcmjdkbeckdnaaTree.S_k HOq116 hk (fun x h1 h2 => (by have := HZ3.out; have := HZ6.out; have := HZ96.out; have := HZ117.out; have := HZ121.out; have := HZ142.out; have := HZ146.out; have := HZ171.out; have := HZ175.out; have := HZ205.out; have := HZ219.out; have := HZ347.out; have h3_ : Lq116 ≤ x ∧ x < Uq116 := h1; have h4_ : x = g341 := h2; omega))
  replace HOq141 := Go.Proofs.YtlcmjdkbeckdnaaTree.S_k HOq141 hk (fun x h1 h2 => (by have := HZ3.out; have := HZ6.out; have := HZ96.out; have := HZ117.out; have := HZ121.out; have := HZ142.out; have := HZ146.out; have := HZ171.out; have := HZ175.out; have := HZ205.out; have := HZ219.out; have := HZ347.out; have h3_ : Lq141 ≤ x ∧ x < Uq141 := h1; have h4_ : x = g341 := h2; omega))
  replace HOq170 := Go.Proofs.YtlcmjdkbeckdnaaTree.S_k HOq170 hk (fun x h1 h2 => (by have := HZ3.out; have := HZ6.out; have := HZ96.out; have := HZ117.out; have := HZ121.out; have := HZ142.out; have := HZ146.out; have := HZ171.out; have := HZ175.out; have := HZ205.out; have := HZ219.out; have := HZ347.out; have h3_ : Lq170 ≤ x ∧ x < Uq170 := h1; have h4_ : x = g341 := h2; omega))
  replace HOq204 := Go.Proofs.YtlcmjdkbeckdnaaTree.S_k HOq204 hk (fun x h1 h2 => (by have := HZ3.out; have := HZ6.out; have := HZ96.out; have := HZ117.out; have := HZ121.out; have := HZ142.out; have := HZ146.out; have := HZ171.out; have := HZ175.out; have := HZ205.out; have := HZ219.out; have := HZ347.out; have h3_ : Lq204 ≤ x ∧ x < Uq204 := h1; have h4_ : x = g341 := h2; omega))
  replace HOq218 := Go.Proofs.YtlcmjdkbeckdnaaTree.S_k HOq218 hk (fun x h1 h2 => (by have := HZ3.out; have := HZ6.out; have := HZ96.out; have := HZ117.out; have := HZ121.out; have := HZ142.out; have := HZ146.out; have := HZ171.out; have := HZ175.out; have := HZ205.out; have := HZ219.out; have := HZ347.out; have h3_ : Lq218 ≤ x ∧ x < Uq218 := h1; have h4_ : x = g341 := h2; omega))
  replace HOq346 := Go.Proofs.YtlcmjdkbeckdnaaTree.S_k HOq346 hk (fun x h1 h2 => (by have := HZ3.out; have := HZ6.out; have := HZ96.out; have := HZ117.out; have := HZ121.out; have := HZ142.out; have := HZ146.out; have := HZ171.out; have := HZ175.out; have := HZ205.out; have := HZ219.out; have := HZ347.out; have h3_ : L342 ≤ x ∧ x < U343 := h1; have h4_ : x = g341 := h2; omega))
  replace HKg1 := Go.Proofs.YtlcmjdkbeckdnaaTree.B_k HKg1 hk (fun h2 => (by have := HZ3.out; have := HZ6.out; have := HZ96.out; have := HZ117.out; have := HZ121.out; have := HZ142.out; have := HZ146.out; have := HZ171.out; have := HZ175.out; have := HZ205.out; have := HZ219.out; have := HZ347.out; have h4_ : g1 = g341 := h2; omega))
  replace HKg4 := Go.Proofs.YtlcmjdkbeckdnaaTree.B_k HKg4 hk (fun h2 => (by have := HZ3.out; have := HZ6.out; have := HZ96.out; have := HZ117.out; have := HZ121.out; have := HZ142.out; have := HZ146.out; have := HZ171.out; have := HZ175.out; have := HZ205.out; have := HZ219.out; have := HZ347.out; have h4_ : g4 = g341 := h2; omega))
  replace HKg90 := Go.Proofs.YtlcmjdkbeckdnaaTree.B_k HKg90 hk (fun h2 => (by have := HZ3.out; have := HZ6.out; have := HZ96.out; have := HZ117.out; have := HZ121.out; have := HZ142.out; have := HZ146.out; have := HZ171.out; have := HZ175.out; have := HZ205.out; have := HZ219.out; have := HZ347.out; have h4_ : g90 = g341 := h2; omega))
  replace HKg119 := Go.Proofs.YtlcmjdkbeckdnaaTree.B_k HKg119 hk (fun h2 => (by have := HZ3.out; have := HZ6.out; have := HZ96.out; have := HZ117.out; have := HZ121.out; have := HZ142.out; have := HZ146.out; have := HZ171.out; have := HZ175.out; have := HZ205.out; have := HZ219.out; have := HZ347.out; have h4_ : g119 = g341 := h2; omega))
  replace HKg144 := Go.Proofs.YtlcmjdkbeckdnaaTree.B_k HKg144 hk (fun h2 => (by have := HZ3.out; have := HZ6.out; have := HZ96.out; have := HZ117.out; have := HZ121.out; have := HZ142.out; have := HZ146.out; have := HZ171.out; have := HZ175.out; have := HZ205.out; have := HZ219.out; have := HZ347.out; have h4_ : g144 = g341 := h2; omega))
  replace HKg173 := Go.Proofs.YtlcmjdkbeckdnaaTree.B_k HKg173 hk (fun h2 => (by have := HZ3.out; have := HZ6.out; have := HZ96.out; have := HZ117.out; have := HZ121.out; have := HZ142.out; have := HZ146.out; have := HZ171.out; have := HZ175.out; have := HZ205.out; have := HZ219.out; have := HZ347.out; have h4_ : g173 = g341 := h2; omega))
  replace HS := Go.Proofs.YtlcmjdkbeckdnaaTree.Z_k HS hk
  clear hw hk hge_
  refine hK.out _ _ ⟨(blk_cell HKg1.out 0).trans rfl, (blk_cell HKg1.out 1).trans rfl, (blk_cell HKg1.out 2).trans rfl, (blk_cell HKg1.out 3).trans rfl, (blk_cell HKg4.out 0).trans rfl, (blk_cell HKg4.out 1).trans rfl, (blk_cell HKg4.out 2).trans rfl, (blk_cell HKg4.out 3).trans rfl⟩ (fun hHeld => ?_)
  clear hK K
  refine done_ (by kernel_rfl) ?_
  have hc357 : w348.cell? ⟨g341, 0, none⟩ = some (.int .i64 t286) := (blk_cell HKg341.out 0).trans rfl
  have hc358 : w348.cell? ⟨g341, 1, none⟩ = some (.int .i64 t287) := (blk_cell HKg341.out 1).trans rfl
  have hc359 : w348.cell? ⟨g341, 2, none⟩ = some (.int .i64 t288) := (blk_cell HKg341.out 2).trans rfl
  have hc360 : w348.cell? ⟨g341, 3, none⟩ = some (.slice Aq346 t289.length cq346) := (blk_cell HKg341.out 3).trans rfl
  have hc361 : w348.cell? ⟨g90, 0, none⟩ = some (.int .i64 t35) := (blk_cell HKg90.out 0).trans rfl
  have hc362 : w348.cell? ⟨g90, 1, none⟩ = some (.int .i64 t36) := (blk_cell HKg90.out 1).trans rfl
  have hc363 : w348.cell? ⟨g90, 2, none⟩ = some (.int .i64 t37) := (blk_cell HKg90.out 2).trans rfl
  have hc364 : w348.cell? ⟨g90, 3, none⟩ = some (.slice Aq95 t38.length cq95) := (blk_cell HKg90.out 3).trans rfl
  go_wp2_with (first | ((with_reducible refine gate_callee (f := 16) rfl ?_); refine goesL_ (some 82) rfl rfl Try.func16 (by kernel_rfl) rfl #[.agg #[.int .i64 t286, .int .i64 t287, .int .i64 t288, .slice Aq346 t289.length cq346], .agg #[.int .i64 t35, .int .i64 t36, .int .i64 t37, .slice Aq95 t38.length cq95]] rfl (by (try simp only [List.map_toArray, List.map_cons, List.map_nil]); first | done | rfl) ?_; (with_reducible refine (laws_eqCond.calls k t286 t287 t288 _ _ t289 t35 t36 t37 _ _ t38 true _ ?side1 ?side2 ?side3 ?side4 E365.out).mono ?_); (case side1 => exact (Kd.S_reads' HOq346.out).2.2); (case side2 => exact (Kd.S_reads' HOq346.out).2.1); (case side3 => exact (Kd.S_reads' HOq95.out).2.2); (case side4 => exact (Kd.S_reads' HOq95.out).2.1); rintro e w367 ⟨rfl, hb⟩; refine ⟨_, rfl, ?_⟩; (try clear hc357 hc358 hc359 hc360 hc361 hc362 hc363 hc364); replace HOq95 := Go.Proofs.YtlcmjdkbeckdnaaTree.S_b HOq95 hb; replace HOq116 := Go.Proofs.YtlcmjdkbeckdnaaTree.S_b HOq116 hb; replace HOq141 := Go.Proofs.YtlcmjdkbeckdnaaTree.S_b HOq141 hb; replace HOq170 := Go.Proofs.YtlcmjdkbeckdnaaTree.S_b HOq170 hb; replace HOq204 := Go.Proofs.YtlcmjdkbeckdnaaTree.S_b HOq204 hb; replace HOq218 := Go.Proofs.YtlcmjdkbeckdnaaTree.S_b HOq218 hb; replace HOq346 := Go.Proofs.YtlcmjdkbeckdnaaTree.S_b HOq346 hb; replace HKg1 := Go.Proofs.YtlcmjdkbeckdnaaTree.B_b HKg1 hb; replace HKg4 := Go.Proofs.YtlcmjdkbeckdnaaTree.B_b HKg4 hb; replace HKg90 := Go.Proofs.YtlcmjdkbeckdnaaTree.B_b HKg90 hb; replace HKg119 := Go.Proofs.YtlcmjdkbeckdnaaTree.B_b HKg119 hb; replace HKg144 := Go.Proofs.YtlcmjdkbeckdnaaTree.B_b HKg144 hb; replace HKg173 := Go.Proofs.YtlcmjdkbeckdnaaTree.B_b HKg173 hb; replace HKg341 := Go.Proofs.YtlcmjdkbeckdnaaTree.B_b HKg341 hb; replace HS := Go.Proofs.YtlcmjdkbeckdnaaTree.Z_b HS hb; replace HB := Go.Proofs.YtlcmjdkbeckdnaaTree.H_b HB hb; clear hb; have hc369 : w367.cell? ⟨g173, 0, none⟩ = some (.int .i64 t165) := (blk_cell HKg173.out 0).trans rfl; have hc370 : w367.cell? ⟨g173, 1, none⟩ = some (.int .i64 t166) := (blk_cell HKg173.out 1).trans rfl; have hc371 : w367.cell? ⟨g173, 2, none⟩ = some (.int .i64 t167) := (blk_cell HKg173.out 2).trans rfl; have hc372 : w367.cell? ⟨g173, 3, none⟩ = some (.slice Aq170 t168.length cq170) := (blk_cell HKg173.out 3).trans rfl) | ((with_reducible refine gate_callee (f := 22) rfl ?_); refine goesL_ (some 86) rfl rfl Try.func22 (by kernel_rfl) rfl #[.agg #[.int .i64 t165, .int .i64 t166, .int .i64 t167, .slice Aq170 t168.length cq170], .int .i64 1] rfl (by (try simp only [List.map_toArray, List.map_cons, List.map_nil]); first | done | rfl) ?_; rw [HLN264.out]; (with_reducible refine (laws_heldCond.calls k t165 t166 t167 _ _ t262 1 t261 _ ?side1 ?side2 E373.out).mono ?_); (case side1 => exact (Kd.S_reads' HOq170.out).2.2); (case side2 => (have h1_ := (Kd.S_reads' HOq170.out).2.1; have h2_ := HLN264.out; omega)); rintro e w375 ⟨rfl, hb⟩; refine ⟨_, rfl, ?_⟩; (try clear hc369 hc370 hc371 hc372); replace HOq95 := Go.Proofs.YtlcmjdkbeckdnaaTree.S_b HOq95 hb; replace HOq116 := Go.Proofs.YtlcmjdkbeckdnaaTree.S_b HOq116 hb; replace HOq141 := Go.Proofs.YtlcmjdkbeckdnaaTree.S_b HOq141 hb; replace HOq170 := Go.Proofs.YtlcmjdkbeckdnaaTree.S_b HOq170 hb; replace HOq204 := Go.Proofs.YtlcmjdkbeckdnaaTree.S_b HOq204 hb; replace HOq218 := Go.Proofs.YtlcmjdkbeckdnaaTree.S_b HOq218 hb; replace HOq346 := Go.Proofs.YtlcmjdkbeckdnaaTree.S_b HOq346 hb; replace HKg1 := Go.Proofs.YtlcmjdkbeckdnaaTree.B_b HKg1 hb; replace HKg4 := Go.Proofs.YtlcmjdkbeckdnaaTree.B_b HKg4 hb; replace HKg90 := Go.Proofs.YtlcmjdkbeckdnaaTree.B_b HKg90 hb; replace HKg119 := Go.Proofs.YtlcmjdkbeckdnaaTree.B_b HKg119 hb; replace HKg144 := Go.Proofs.YtlcmjdkbeckdnaaTree.B_b HKg144 hb; replace HKg173 := Go.Proofs.YtlcmjdkbeckdnaaTree.B_b HKg173 hb; replace HKg341 := Go.Proofs.YtlcmjdkbeckdnaaTree.B_b HKg341 hb; replace HS := Go.Proofs.YtlcmjdkbeckdnaaTree.Z_b HS hb; replace HB := Go.Proofs.YtlcmjdkbeckdnaaTree.H_b HB hb; clear hb))
  go_ret
  exact ⟨rfl, HB.out⟩
inductive wf24 : S24 → Prop
  | mk (f0 : Int) (f1 : Int) (f2 : Int) (f3 : List (S24)) : ((Lit.int .i64 f0).wf = true) → ((Lit.int .i64 f1).wf = true) → ((Lit.int .i64 f2).wf = true) → (f3.length ≤ maxLen) → (∀ y ∈ f3, wf24 y) → wf24 ⟨f0, f1, f2, f3⟩
/-- THE ONE PURE STATEMENT of laws_FnExactCondOr. -/
def laws_FnExactCondOr.Pure : Prop := ∀ (a0_0 : Int) (a0_1 : Int) (a0_2 : Int) (l0_3 : List (S24)) (a1_0 : Int) (a1_1 : Int) (a1_2 : Int) (l1_3 : List (S24)), ((Lit.int .i64 a0_0).wf = true) → ((Lit.int .i64 a0_1).wf = true) → ((Lit.int .i64 a0_2).wf = true) → ((l0_3.length ≤ maxLen ∧ ∀ y4 ∈ l0_3, wf24 y4)) → ((Lit.int .i64 a1_0).wf = true) → ((Lit.int .i64 a1_1).wf = true) → ((Lit.int .i64 a1_2).wf = true) → ((l1_3.length ≤ maxLen ∧ ∀ y4 ∈ l1_3, wf24 y4)) → ∃ k, laws_FnExactCondOr.f k a0_0 a0_1 a0_2 l0_3 a1_0 a1_1 a1_2 l1_3 = some true

end Go.Proofs.Ytlcmjdkbeckdnaa.XFnExactCondOr
