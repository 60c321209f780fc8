/- Written by this session's own program (wip/xprint, which runs over the kit's print): what the functions that the law reaches come to, each proved; and the law's row. Conditions: none. -/
import Derived.Test.YtgmgoabohppkeaaUFnRolesx0
import Derived.Test.YtgmgoabohppkeaaUFnRolesx4
import Derived.Test.YtgmgoabohppkeaaUFnRolesx8
namespace Go.Proofs.Ytgmgoabohppkeaa.XFnRoles
open Go.RowKit Go.Proofs.YtgmgoabohppkeaaW.PrintWords Go.Proofs.YtgmgoabohppkeaaW.PrintLast Go.Proofs.YtgmgoabohppkeaaW.PrintMore
attribute [local go_sem] max2_int min2_int max_two min_two max_three min_three max_four min_four   -- for this text's walks alone
set_option linter.unusedVariables false
set_option linter.unusedSimpArgs false

/-! ### spec_l5Name: function 109 -/
def spec_l5Name.f (s0_0 : List Int) (s0_1 : Int) (s0_2 : Int) (a1 : Int) : Option (Int × Int × Int) := (spec_l1Below.f s0_0 s0_1 s0_2 3).bind fun bt288 => (some (wrap64 ((wrap64 (a1 * 10)) + bt288.1), bt288.2.1, bt288.2.2))
set_option maxHeartbeats 8000000 in
set_option maxRecDepth 100000 in
theorem spec_l5Name.calls (g : Nat) (s0_0 : List Int) (s0_1 : Int) (s0_2 : Int) (a1 : Int) (r1 : Int) (r2 : Int) (r3 : Int) (w0 w : World) (hI : IsS119 w0 w g s0_0 s0_1 s0_2) (hB : Below w0.heap.size w0 w) (h : spec_l5Name.f s0_0 s0_1 s0_2 a1 = some (r1, r2, r3)) :
    Calls Try.prog 109 #[.pointer (some ⟨g, 0, none⟩), .int .i64 a1] w fun e w' => e = .returned (.int .i64 r1) ∧ IsS119 w0 w' g s0_0 r2 r3 ∧ Below w0.heap.size w0 w' ∧ KeepBut w w' g none := by
  have HI0 := Aside0.mk hI
  have HK := Aside0.mk (KeepBut.refl w g none)
  have HL := Aside0.mk hB.size
  clear hI
  have HW0 := Aside0.mk hB.size
  have HB := Aside0.mk hB
  clear hB
  have H : ((spec_l1Below.f s0_0 s0_1 s0_2 3).bind fun bt288 => (some (wrap64 ((wrap64 (a1 * 10)) + bt288.1), bt288.2.1, bt288.2.2))) = some (r1, r2, r3) := h
  clear h
  replace H := Option.bind_eq_some_iff.mp H
  obtain ⟨⟨t288, t289, t290⟩, A30, H⟩ := H
  replace H : (some (wrap64 ((wrap64 (a1 * 10)) + t288), t289, t290)) = some (r1, r2, r3) := H
  have A3 := Aside0.mk A30
  clear A30
  simp only [Option.some.injEq, Prod.mk.injEq] at H
  obtain ⟨rfl, rfl, rfl⟩ := H
  go_enter Try.func109, Try.ntmps109
  go_wp2_with (first | ((with_reducible refine gate_callee (f := 105) rfl ?_); refine goesL_ (some 8) rfl rfl Try.func105 (by kernel_rfl) rfl #[.pointer (some ⟨g, 0, none⟩), .int .i64 3] rfl (by (try simp only [List.map_toArray, List.map_cons, List.map_nil]); first | done | rfl | (simp only [List.length_drop, List.length_take]; rfl)) ?_; (with_reducible refine (spec_l1Below.calls g s0_0 s0_1 s0_2 3 t288 t289 t290 w0 _ ?side1 ?side2 A3.out).mono ?_); (case side1 => repeat (first | (with_reducible first | exact HI0.out | apply IsS119.alloc | apply IsS119.drewN | apply IsS119.drew | apply IsS119.set_1 | apply IsS119.set_2) | exact HI0.out)); (case side2 => repeat (first | (with_reducible first | exact HB.out | apply bA_ | apply bN_ | apply bD_ | refine bS_ ?_ (IsS119.ge HI0.out)) | exact HB.out)); rintro e w4 ⟨rfl, hi, hb, hk⟩; refine ⟨_, rfl, ?_⟩; have n0_ := Aside0.mk (KeepBut.trans (by repeat (first | (with_reducible first | exact HK.out | apply KeepBut.set_ | apply keep_drewN | apply keep_drew | apply keep_alloc) | exact HK.out)) hk (.inl rfl)); have n1_ := Aside0.mk (hb); have n2_ := Aside0.mk (hi); clear HK; clear HB; clear HI0; have HK := n0_; have HB := n1_; have HI0 := n2_; clear n0_ n1_ n2_; (try clear hb); (try clear hb2); (try clear hk); (try clear hi)))
  go_ret
  exact ⟨by first | rfl | (simp [errW_none, errW_some] <;> rfl) | (simp [*, errW_none, errW_some] <;> rfl), by repeat (first | (with_reducible first | exact HI0.out | apply IsS119.alloc | apply IsS119.drewN | apply IsS119.drew | apply IsS119.set_1 | apply IsS119.set_2) | exact HI0.out), by repeat (first | (with_reducible first | exact HB.out | apply bA_ | apply bN_ | apply bD_ | refine bS_ ?_ (IsS119.ge HI0.out)) | exact HB.out), by repeat (first | (with_reducible first | exact HK.out | apply KeepBut.set_ | apply keep_drewN | apply keep_drew | apply keep_alloc) | exact HK.out)⟩

/-! ### spec_l6Fact: function 127 -/
def spec_l6Fact.f (s0_0 : List Int) (s0_1 : Int) (s0_2 : Int) : Option (Int × Int × Int × Int × Int × Int × Int × Int) := (spec_l1Below.f s0_0 s0_1 s0_2 4).bind fun bt292 => ((spec_l1Below.f s0_0 bt292.2.1 bt292.2.2 3).bind fun bt295 => ((spec_l1Below.f s0_0 bt295.2.1 bt295.2.2 20).bind fun bt298 => ((spec_l1Below.f s0_0 bt298.2.1 bt298.2.2 30).bind fun bt302 => (if (wrap64 (1 + bt292.1)) = 1 then ((spec_l5Name.f s0_0 bt302.2.1 bt302.2.2 1).bind fun bt305 => ((spec_l1Below.f s0_0 bt305.2.1 bt305.2.2 4).bind fun bt308 => (some (wrap64 (1 + bt292.1), bt305.1, bt308.1, bt295.1, bt298.1, wrap64 (bt298.1 + bt302.1), bt308.2.1, bt308.2.2)))) else (if (wrap64 (1 + bt292.1)) = 2 then ((spec_l5Name.f s0_0 bt302.2.1 bt302.2.2 1).bind fun bt311 => ((spec_l5Name.f s0_0 bt311.2.1 bt311.2.2 2).bind fun bt314 => (some (wrap64 (1 + bt292.1), bt311.1, bt314.1, bt295.1, bt298.1, wrap64 (bt298.1 + bt302.1), bt314.2.1, bt314.2.2)))) else (if (wrap64 (1 + bt292.1)) = 3 then ((spec_l5Name.f s0_0 bt302.2.1 bt302.2.2 2).bind fun bt317 => ((spec_l1Below.f s0_0 bt317.2.1 bt317.2.2 4).bind fun bt320 => (some (wrap64 (1 + bt292.1), bt317.1, bt320.1, bt295.1, bt298.1, wrap64 (bt298.1 + bt302.1), bt320.2.1, bt320.2.2)))) else ((spec_l5Name.f s0_0 bt302.2.1 bt302.2.2 3).bind fun bt323 => ((spec_l1Below.f s0_0 bt323.2.1 bt323.2.2 4).bind fun bt326 => (some (wrap64 (1 + bt292.1), bt323.1, bt326.1, bt295.1, bt298.1, wrap64 (bt298.1 + bt302.1), bt326.2.1, bt326.2.2))))))))))
theorem pB127_ {P Q : Prop} (h : P) (g : P → Q := by intro h_; (with_reducible repeat (first | refine blk_drewN ?_ _ | refine blk_drew ?_ | refine blk_alloc ?_ _)); exact h_) : Q := g h
theorem z127_0 {Q : Prop} (g : Q := by repeat (first | (with_reducible first | exact HK.out | apply KeepBut.set_ | apply keep_drewN | apply keep_drew | apply keep_alloc | refine keep_far ?_ GW291.out _) | exact HK.out)) : Q := g
theorem z127_1 {Q : Prop} (g : Q := by (try simp only [List.map_toArray, List.map_cons, List.map_nil]); first | done | rfl | (simp only [List.length_drop, List.length_take]; rfl)) : Q := g
theorem z127_2 {Q : Prop} (g : Q := by repeat (first | (with_reducible first | exact HK.out | apply KeepBut.set_ | apply keep_drewN | apply keep_drew | apply keep_alloc | refine keep_far ?_ GW291.out _ | refine keep_far ?_ GW301.out _) | exact HK.out)) : Q := g
theorem z127_3 {Q : Prop} (g : Q := by (with_reducible repeat (first | refine blk_drewN ?_ _ | refine blk_drew ?_ | refine blk_alloc ?_ _)); refine blk_far ?_ NB291_301.out _; (with_reducible repeat (first | refine blk_drewN ?_ _ | refine blk_drew ?_ | refine blk_alloc ?_ _)); exact BK291.out) : Q := g
theorem z127_4 {Q : Prop} (g : Q := by repeat (first | (with_reducible first | exact HK.out | apply KeepBut.set_ | apply keep_drewN | apply keep_drew | apply keep_alloc) | exact HK.out)) : Q := g
theorem z127_5 {Q : Prop} (g : Q := by (with_reducible repeat (first | refine blk_drewN ?_ _ | refine blk_drew ?_ | refine blk_alloc ?_ _)); refine blk_put (cs := #[.int .i64 (wrap64 (1 + t292)), .int .i64 0, .int .i64 0, .int .i64 t295, .int .i64 t298, .int .i64 (wrap64 (t298 + t302))]) ?_ 1 _ rfl; (with_reducible repeat (first | refine blk_drewN ?_ _ | refine blk_drew ?_ | refine blk_alloc ?_ _)); exact BK301.out) : Q := g
theorem z127_6 {Q : Prop} (g : Q := by (with_reducible repeat (first | refine blk_drewN ?_ _ | refine blk_drew ?_ | refine blk_alloc ?_ _)); refine blk_put (cs := #[.int .i64 (wrap64 (1 + t292)), .int .i64 0, .int .i64 0, .int .i64 t295, .int .i64 t298, .int .i64 0]) ?_ 5 _ rfl; (with_reducible repeat (first | refine blk_drewN ?_ _ | refine blk_drew ?_ | refine blk_alloc ?_ _)); exact BK301.out) : Q := g
theorem z127_7 {Q : Prop} (g : Q := by rw [hg]; exact Nat.ne_of_lt (IsS119.lt (show IsS119 w0 _ g s0_0 t299 t300 from by repeat (first | (with_reducible first | exact HI0.out | apply IsS119.alloc | apply IsS119.drewN | apply IsS119.drew | apply IsS119.set_1 | apply IsS119.set_2 | refine IsS119.far ?_ NB0_291.out _) | exact HI0.out)))) : Q := g
theorem z127_8 {Q : Prop} (g : Q := by rw [hg]; exact Nat.ne_of_gt (IsS119.lt (show IsS119 w0 _ g s0_0 t299 t300 from by repeat (first | (with_reducible first | exact HI0.out | apply IsS119.alloc | apply IsS119.drewN | apply IsS119.drew | apply IsS119.set_1 | apply IsS119.set_2 | refine IsS119.far ?_ NB0_291.out _) | exact HI0.out)))) : Q := g
theorem z127_9 {Q : Prop} (g : Q := by rw [hg]; exact Nat.ne_of_lt (IsS119.lt (show IsS119 w0 _ g s0_0 s0_1 s0_2 from by repeat (first | (with_reducible first | exact HI0.out | apply IsS119.alloc | apply IsS119.drewN | apply IsS119.drew | apply IsS119.set_1 | apply IsS119.set_2) | exact HI0.out)))) : Q := g
theorem z127_10 {Q : Prop} (g : Q := by rw [hg]; exact Nat.ne_of_gt (IsS119.lt (show IsS119 w0 _ g s0_0 s0_1 s0_2 from by repeat (first | (with_reducible first | exact HI0.out | apply IsS119.alloc | apply IsS119.drewN | apply IsS119.drew | apply IsS119.set_1 | apply IsS119.set_2) | exact HI0.out)))) : Q := g
theorem z127_11 {Q : Prop} (g : Q := by repeat (first | (with_reducible first | exact HI0.out | apply IsS119.alloc | apply IsS119.drewN | apply IsS119.drew | apply IsS119.set_1 | apply IsS119.set_2 | refine IsS119.far ?_ NB0_291.out _) | exact HI0.out)) : Q := g
theorem z127_12 {Q : Prop} (g : Q := by repeat (first | (with_reducible first | exact HB.out | apply bA_ | apply bN_ | apply bD_ | refine bS_ ?_ (IsS119.ge HI0.out) | refine bS_ ?_ GE291.out) | exact HB.out)) : Q := g
theorem z127_13 {Q : Prop} (g : Q := by repeat (first | (with_reducible first | exact HI0.out | apply IsS119.alloc | apply IsS119.drewN | apply IsS119.drew | apply IsS119.set_1 | apply IsS119.set_2) | exact HI0.out)) : Q := g
theorem z127_14 {Q : Prop} (g : Q := by repeat (first | (with_reducible first | exact HB.out | apply bA_ | apply bN_ | apply bD_ | refine bS_ ?_ (IsS119.ge HI0.out)) | exact HB.out)) : Q := g
theorem z127_15 {Q : Prop} (g : Q := by rw [hg]; exact Nat.ne_of_lt (blk_lt (g := gb291) (o := .cells #[.int .i64 0, .int .i64 0, .int .i64 0, .int .i64 0, .int .i64 0, .int .i64 0] 75 (0, 0)) (pB127_ BK291.out))) : Q := g
theorem z127_16 {Q : Prop} (g : Q := by rw [hg]; exact Nat.ne_of_gt (blk_lt (g := gb291) (o := .cells #[.int .i64 0, .int .i64 0, .int .i64 0, .int .i64 0, .int .i64 0, .int .i64 0] 75 (0, 0)) (pB127_ BK291.out))) : Q := g
theorem z127_17 {Q : Prop} (g : Q := by rw [hg]; exact (keep_size (w := w) (g := g) (row := none) z127_4)) : Q := g
theorem z127_18 {Q : Prop} (g : Q := by rw [hg]; exact (keep_size (w := w) (g := g) (row := none) z127_0)) : Q := g
theorem z127_19 {Q : Prop} (g : Q := by kernel_rfl) : Q := g
set_option maxHeartbeats 8000000 in
set_option maxRecDepth 100000 in
theorem spec_l6Fact.calls (g : Nat) (s0_0 : List Int) (s0_1 : Int) (s0_2 : Int) (r1 : Int) (r2 : Int) (r3 : Int) (r4 : Int) (r5 : Int) (r6 : Int) (r7 : Int) (r8 : Int) (w0 w : World) (hI : IsS119 w0 w g s0_0 s0_1 s0_2) (hB : Below w0.heap.size w0 w) (h : spec_l6Fact.f s0_0 s0_1 s0_2 = some (r1, r2, r3, r4, r5, r6, r7, r8)) :
    Calls Try.prog 127 #[.pointer (some ⟨g, 0, none⟩)] w fun e w' => e = .returned (.agg #[.int .i64 r1, .int .i64 r2, .int .i64 r3, .int .i64 r4, .int .i64 r5, .int .i64 r6]) ∧ IsS119 w0 w' g s0_0 r7 r8 ∧ Below w0.heap.size w0 w' ∧ KeepBut w w' g none := by
  have hu75 := Try.underlying75
  have HI0 := Aside0.mk hI
  have HK := Aside0.mk (KeepBut.refl w g none)
  have HL := Aside0.mk hB.size
  clear hI
  have HW0 := Aside0.mk hB.size
  have HB := Aside0.mk hB
  clear hB
  have H : ((spec_l1Below.f s0_0 s0_1 s0_2 4).bind fun bt292 => ((spec_l1Below.f s0_0 bt292.2.1 bt292.2.2 3).bind fun bt295 => ((spec_l1Below.f s0_0 bt295.2.1 bt295.2.2 20).bind fun bt298 => ((spec_l1Below.f s0_0 bt298.2.1 bt298.2.2 30).bind fun bt302 => (if (wrap64 (1 + bt292.1)) = 1 then ((spec_l5Name.f s0_0 bt302.2.1 bt302.2.2 1).bind fun bt305 => ((spec_l1Below.f s0_0 bt305.2.1 bt305.2.2 4).bind fun bt308 => (some (wrap64 (1 + bt292.1), bt305.1, bt308.1, bt295.1, bt298.1, wrap64 (bt298.1 + bt302.1), bt308.2.1, bt308.2.2)))) else (if (wrap64 (1 + bt292.1)) = 2 then ((spec_l5Name.f s0_0 bt302.2.1 bt302.2.2 1).bind fun bt311 => ((spec_l5Name.f s0_0 bt311.2.1 bt311.2.2 2).bind fun bt314 => (some (wrap64 (1 + bt292.1), bt311.1, bt314.1, bt295.1, bt298.1, wrap64 (bt298.1 + bt302.1), bt314.2.1, bt314.2.2)))) else (if (wrap64 (1 + bt292.1)) = 3 then ((spec_l5Name.f s0_0 bt302.2.1 bt302.2.2 2).bind fun bt317 => ((spec_l1Below.f s0_0 bt317.2.1 bt317.2.2 4).bind fun bt320 => (some (wrap64 (1 + bt292.1), bt317.1, bt320.1, bt295.1, bt298.1, wrap64 (bt298.1 + bt302.1), bt320.2.1, bt320.2.2)))) else ((spec_l5Name.f s0_0 bt302.2.1 bt302.2.2 3).bind fun bt323 => ((spec_l1Below.f s0_0 bt323.2.1 bt323.2.2 4).bind fun bt326 => (some (wrap64 (1 + bt292.1), bt323.1, bt326.1, bt295.1, bt298.1, wrap64 (bt298.1 + bt302.1), bt326.2.1, bt326.2.2))))))))))) = some (r1, r2, r3, r4, r5, r6, r7, r8) := h
  clear h
  replace H := Option.bind_eq_some_iff.mp H
  obtain ⟨⟨t292, t293, t294⟩, A20, H⟩ := H
  replace H : ((spec_l1Below.f s0_0 t293 t294 3).bind fun bt295 => ((spec_l1Below.f s0_0 bt295.2.1 bt295.2.2 20).bind fun bt298 => ((spec_l1Below.f s0_0 bt298.2.1 bt298.2.2 30).bind fun bt302 => (if (wrap64 (1 + t292)) = 1 then ((spec_l5Name.f s0_0 bt302.2.1 bt302.2.2 1).bind fun bt305 => ((spec_l1Below.f s0_0 bt305.2.1 bt305.2.2 4).bind fun bt308 => (some (wrap64 (1 + t292), bt305.1, bt308.1, bt295.1, bt298.1, wrap64 (bt298.1 + bt302.1), bt308.2.1, bt308.2.2)))) else (if (wrap64 (1 + t292)) = 2 then ((spec_l5Name.f s0_0 bt302.2.1 bt302.2.2 1).bind fun bt311 => ((spec_l5Name.f s0_0 bt311.2.1 bt311.2.2 2).bind fun bt314 => (some (wrap64 (1 + t292), bt311.1, bt314.1, bt295.1, bt298.1, wrap64 (bt298.1 + bt302.1), bt314.2.1, bt314.2.2)))) else (if (wrap64 (1 + t292)) = 3 then ((spec_l5Name.f s0_0 bt302.2.1 bt302.2.2 2).bind fun bt317 => ((spec_l1Below.f s0_0 bt317.2.1 bt317.2.2 4).bind fun bt320 => (some (wrap64 (1 + t292), bt317.1, bt320.1, bt295.1, bt298.1, wrap64 (bt298.1 + bt302.1), bt320.2.1, bt320.2.2)))) else ((spec_l5Name.f s0_0 bt302.2.1 bt302.2.2 3).bind fun bt323 => ((spec_l1Below.f s0_0 bt323.2.1 bt323.2.2 4).bind fun bt326 => (some (wrap64 (1 + t292), bt323.1, bt326.1, bt295.1, bt298.1, wrap64 (bt298.1 + bt302.1), bt326.2.1, bt326.2.2)))))))))) = some (r1, r2, r3, r4, r5, r6, r7, r8) := H
  have A2 := Aside0.mk A20
  clear A20
  replace H := Option.bind_eq_some_iff.mp H
  obtain ⟨⟨t295, t296, t297⟩, A30, H⟩ := H
  replace H : ((spec_l1Below.f s0_0 t296 t297 20).bind fun bt298 => ((spec_l1Below.f s0_0 bt298.2.1 bt298.2.2 30).bind fun bt302 => (if (wrap64 (1 + t292)) = 1 then ((spec_l5Name.f s0_0 bt302.2.1 bt302.2.2 1).bind fun bt305 => ((spec_l1Below.f s0_0 bt305.2.1 bt305.2.2 4).bind fun bt308 => (some (wrap64 (1 + t292), bt305.1, bt308.1, t295, bt298.1, wrap64 (bt298.1 + bt302.1), bt308.2.1, bt308.2.2)))) else (if (wrap64 (1 + t292)) = 2 then ((spec_l5Name.f s0_0 bt302.2.1 bt302.2.2 1).bind fun bt311 => ((spec_l5Name.f s0_0 bt311.2.1 bt311.2.2 2).bind fun bt314 => (some (wrap64 (1 + t292), bt311.1, bt314.1, t295, bt298.1, wrap64 (bt298.1 + bt302.1), bt314.2.1, bt314.2.2)))) else (if (wrap64 (1 + t292)) = 3 then ((spec_l5Name.f s0_0 bt302.2.1 bt302.2.2 2).bind fun bt317 => ((spec_l1Below.f s0_0 bt317.2.1 bt317.2.2 4).bind fun bt320 => (some (wrap64 (1 + t292), bt317.1, bt320.1, t295, bt298.1, wrap64 (bt298.1 + bt302.1), bt320.2.1, bt320.2.2)))) else ((spec_l5Name.f s0_0 bt302.2.1 bt302.2.2 3).bind fun bt323 => ((spec_l1Below.f s0_0 bt323.2.1 bt323.2.2 4).bind fun bt326 => (some (wrap64 (1 + t292), bt323.1, bt326.1, t295, bt298.1, wrap64 (bt298.1 + bt302.1), bt326.2.1, bt326.2.2))))))))) = some (r1, r2, r3, r4, r5, r6, r7, r8) := H
  have A3 := Aside0.mk A30
  clear A30
  replace H := Option.bind_eq_some_iff.mp H
  obtain ⟨⟨t298, t299, t300⟩, A40, H⟩ := H
  replace H : ((spec_l1Below.f s0_0 t299 t300 30).bind fun bt302 => (if (wrap64 (1 + t292)) = 1 then ((spec_l5Name.f s0_0 bt302.2.1 bt302.2.2 1).bind fun bt305 => ((spec_l1Below.f s0_0 bt305.2.1 bt305.2.2 4).bind fun bt308 => (some (wrap64 (1 + t292), bt305.1, bt308.1, t295, t298, wrap64 (t298 + bt302.1), bt308.2.1, bt308.2.2)))) else (if (wrap64 (1 + t292)) = 2 then ((spec_l5Name.f s0_0 bt302.2.1 bt302.2.2 1).bind fun bt311 => ((spec_l5Name.f s0_0 bt311.2.1 bt311.2.2 2).bind fun bt314 => (some (wrap64 (1 + t292), bt311.1, bt314.1, t295, t298, wrap64 (t298 + bt302.1), bt314.2.1, bt314.2.2)))) else (if (wrap64 (1 + t292)) = 3 then ((spec_l5Name.f s0_0 bt302.2.1 bt302.2.2 2).bind fun bt317 => ((spec_l1Below.f s0_0 bt317.2.1 bt317.2.2 4).bind fun bt320 => (some (wrap64 (1 + t292), bt317.1, bt320.1, t295, t298, wrap64 (t298 + bt302.1), bt320.2.1, bt320.2.2)))) else ((spec_l5Name.f s0_0 bt302.2.1 bt302.2.2 3).bind fun bt323 => ((spec_l1Below.f s0_0 bt323.2.1 bt323.2.2 4).bind fun bt326 => (some (wrap64 (1 + t292), bt323.1, bt326.1, t295, t298, wrap64 (t298 + bt302.1), bt326.2.1, bt326.2.2)))))))) = some (r1, r2, r3, r4, r5, r6, r7, r8) := H
  have A4 := Aside0.mk A40
  clear A40
  replace H := Option.bind_eq_some_iff.mp H
  obtain ⟨⟨t302, t303, t304⟩, A50, H⟩ := H
  replace H : (if (wrap64 (1 + t292)) = 1 then ((spec_l5Name.f s0_0 t303 t304 1).bind fun bt305 => ((spec_l1Below.f s0_0 bt305.2.1 bt305.2.2 4).bind fun bt308 => (some (wrap64 (1 + t292), bt305.1, bt308.1, t295, t298, wrap64 (t298 + t302), bt308.2.1, bt308.2.2)))) else (if (wrap64 (1 + t292)) = 2 then ((spec_l5Name.f s0_0 t303 t304 1).bind fun bt311 => ((spec_l5Name.f s0_0 bt311.2.1 bt311.2.2 2).bind fun bt314 => (some (wrap64 (1 + t292), bt311.1, bt314.1, t295, t298, wrap64 (t298 + t302), bt314.2.1, bt314.2.2)))) else (if (wrap64 (1 + t292)) = 3 then ((spec_l5Name.f s0_0 t303 t304 2).bind fun bt317 => ((spec_l1Below.f s0_0 bt317.2.1 bt317.2.2 4).bind fun bt320 => (some (wrap64 (1 + t292), bt317.1, bt320.1, t295, t298, wrap64 (t298 + t302), bt320.2.1, bt320.2.2)))) else ((spec_l5Name.f s0_0 t303 t304 3).bind fun bt323 => ((spec_l1Below.f s0_0 bt323.2.1 bt323.2.2 4).bind fun bt326 => (some (wrap64 (1 + t292), bt323.1, bt326.1, t295, t298, wrap64 (t298 + t302), bt326.2.1, bt326.2.2))))))) = some (r1, r2, r3, r4, r5, r6, r7, r8) := H
  have A5 := Aside0.mk A50
  clear A50
  by_cases c6 : (wrap64 (1 + t292)) = 1
  · rw [if_pos c6] at H
    have c6b0 : ((wrap64 (1 + t292)) == 1) = true := beq_iff_eq.mpr c6
    have c6b1 : ((wrap64 (1 + t292)) != 1) = false := bne_eq_false_iff_eq.mpr c6
    clear c6
    replace H := Option.bind_eq_some_iff.mp H
    obtain ⟨⟨t305, t306, t307⟩, A70, H⟩ := H
    replace H : ((spec_l1Below.f s0_0 t306 t307 4).bind fun bt308 => (some (wrap64 (1 + t292), t305, bt308.1, t295, t298, wrap64 (t298 + t302), bt308.2.1, bt308.2.2))) = some (r1, r2, r3, r4, r5, r6, r7, r8) := H
    have A7 := Aside0.mk A70
    clear A70
    replace H := Option.bind_eq_some_iff.mp H
    obtain ⟨⟨t308, t309, t310⟩, A80, H⟩ := H
    replace H : (some (wrap64 (1 + t292), t305, t308, t295, t298, wrap64 (t298 + t302), t309, t310)) = some (r1, r2, r3, r4, r5, r6, r7, r8) := H
    have A8 := Aside0.mk A80
    clear A80
    simp only [Option.some.injEq, Prod.mk.injEq] at H
    obtain ⟨rfl, rfl, rfl, rfl, rfl, rfl, rfl, rfl⟩ := H
    go_enter Try.func127, Try.ntmps127
    try go_wp2_with (first | ((with_reducible refine gate_dst (N := 2) rfl ?_); refine box_event ?hg (N := 2) ?hd (cs := #[.int .i64 0, .int .i64 0, .int .i64 0, .int .i64 0, .int .i64 0, .int .i64 0]) (t := 75) ?hr ?_; (case hd => rfl); (case hg => rfl); (case hr => first | (go_simp; done) | (go_simp; rfl)); intro gb291 hg w9 hbox hb; have n0_ := Aside0.mk (IsS119.below z127_13 hb); have n1_ := Aside0.mk (KeepBut.trans z127_4 (KeepBut.of_below hb g none) (.inl rfl)); have n2_ := Aside0.mk (below_step z127_14 hb); have n3_ := Aside0.mk (hbox); have n4_ := Aside0.mk ((z127_17 : w.heap.size ≤ gb291)); have n5_ := Aside0.mk ((Nat.le_trans HW0.out (z127_17 : w.heap.size ≤ gb291) : w0.heap.size ≤ gb291)); have n6_ := Aside0.mk ((z127_9 : g ≠ gb291)); have n7_ := Aside0.mk ((z127_10 : gb291 ≠ g)); clear HI0; clear HK; clear HB; have HI0 := n0_; have HK := n1_; have HB := n2_; have BK291 := n3_; have GW291 := n4_; have GE291 := n5_; have NB0_291 := n6_; have NB291_0 := n7_; clear n0_ n1_ n2_ n3_ n4_ n5_ n6_ n7_; clear hb hbox hg) | ((with_reducible refine gate_callee (f := 105) rfl ?_); refine goesL_ (some 5) rfl rfl Try.func105 z127_19 rfl #[.pointer (some ⟨g, 0, none⟩), .int .i64 4] rfl z127_1 ?_; (with_reducible refine (spec_l1Below.calls g s0_0 s0_1 s0_2 4 t292 t293 t294 w0 _ ?side1 ?side2 A2.out).mono ?_); (case side1 => repeat (first | (with_reducible first | exact HI0.out | apply IsS119.alloc | apply IsS119.drewN | apply IsS119.drew | apply IsS119.set_1 | apply IsS119.set_2 | refine IsS119.far ?_ NB0_291.out _) | exact HI0.out)); (case side2 => repeat (first | (with_reducible first | exact HB.out | apply bA_ | apply bN_ | apply bD_ | refine bS_ ?_ (IsS119.ge HI0.out) | refine bS_ ?_ GE291.out) | exact HB.out)); rintro e w10 ⟨rfl, hi, hb, hk⟩; refine ⟨_, rfl, ?_⟩; have n0_ := Aside0.mk (KeepBut.blk hk (g' := gb291) (o := .cells #[.int .i64 0, .int .i64 0, .int .i64 0, .int .i64 0, .int .i64 0, .int .i64 0] 75 (0, 0)) (pB127_ BK291.out) NB291_0.out (by simp)); have n1_ := Aside0.mk (KeepBut.trans z127_0 hk (.inl rfl)); have n2_ := Aside0.mk (hb); have n3_ := Aside0.mk (hi); clear BK291; clear HK; clear HB; clear HI0; have BK291 := n0_; have HK := n1_; have HB := n2_; have HI0 := n3_; clear n0_ n1_ n2_ n3_; (try clear hb); (try clear hb2); (try clear hk); (try clear hi)) | ((with_reducible refine gate_callee (f := 105) rfl ?_); refine goesL_ (some 8) rfl rfl Try.func105 z127_19 rfl #[.pointer (some ⟨g, 0, none⟩), .int .i64 3] rfl z127_1 ?_; (with_reducible refine (spec_l1Below.calls g s0_0 t293 t294 3 t295 t296 t297 w0 _ ?side1 ?side2 A3.out).mono ?_); (case side1 => repeat (first | (with_reducible first | exact HI0.out | apply IsS119.alloc | apply IsS119.drewN | apply IsS119.drew | apply IsS119.set_1 | apply IsS119.set_2 | refine IsS119.far ?_ NB0_291.out _) | exact HI0.out)); (case side2 => repeat (first | (with_reducible first | exact HB.out | apply bA_ | apply bN_ | apply bD_ | refine bS_ ?_ (IsS119.ge HI0.out) | refine bS_ ?_ GE291.out) | exact HB.out)); rintro e w11 ⟨rfl, hi, hb, hk⟩; refine ⟨_, rfl, ?_⟩; have n0_ := Aside0.mk (KeepBut.blk hk (g' := gb291) (o := .cells #[.int .i64 0, .int .i64 0, .int .i64 0, .int .i64 0, .int .i64 0, .int .i64 0] 75 (0, 0)) (pB127_ BK291.out) NB291_0.out (by simp)); have n1_ := Aside0.mk (KeepBut.trans z127_0 hk (.inl rfl)); have n2_ := Aside0.mk (hb); have n3_ := Aside0.mk (hi); clear BK291; clear HK; clear HB; clear HI0; have BK291 := n0_; have HK := n1_; have HB := n2_; have HI0 := n3_; clear n0_ n1_ n2_ n3_; (try clear hb); (try clear hb2); (try clear hk); (try clear hi)) | ((with_reducible refine gate_callee (f := 105) rfl ?_); refine goesL_ (some 10) rfl rfl Try.func105 z127_19 rfl #[.pointer (some ⟨g, 0, none⟩), .int .i64 20] rfl z127_1 ?_; (with_reducible refine (spec_l1Below.calls g s0_0 t296 t297 20 t298 t299 t300 w0 _ ?side1 ?side2 A4.out).mono ?_); (case side1 => repeat (first | (with_reducible first | exact HI0.out | apply IsS119.alloc | apply IsS119.drewN | apply IsS119.drew | apply IsS119.set_1 | apply IsS119.set_2 | refine IsS119.far ?_ NB0_291.out _) | exact HI0.out)); (case side2 => repeat (first | (with_reducible first | exact HB.out | apply bA_ | apply bN_ | apply bD_ | refine bS_ ?_ (IsS119.ge HI0.out) | refine bS_ ?_ GE291.out) | exact HB.out)); rintro e w12 ⟨rfl, hi, hb, hk⟩; refine ⟨_, rfl, ?_⟩; have n0_ := Aside0.mk (KeepBut.blk hk (g' := gb291) (o := .cells #[.int .i64 0, .int .i64 0, .int .i64 0, .int .i64 0, .int .i64 0, .int .i64 0] 75 (0, 0)) (pB127_ BK291.out) NB291_0.out (by simp)); have n1_ := Aside0.mk (KeepBut.trans z127_0 hk (.inl rfl)); have n2_ := Aside0.mk (hb); have n3_ := Aside0.mk (hi); clear BK291; clear HK; clear HB; clear HI0; have BK291 := n0_; have HK := n1_; have HB := n2_; have HI0 := n3_; clear n0_ n1_ n2_ n3_; (try clear hb); (try clear hb2); (try clear hk); (try clear hi)) | ((with_reducible refine gate_dst (N := 3) rfl ?_); refine box_event ?hg (N := 3) ?hd (cs := #[.int .i64 0, .int .i64 0, .int .i64 0, .int .i64 0, .int .i64 0, .int .i64 0]) (t := 75) ?hr ?_; (case hd => rfl); (case hg => rfl); (case hr => first | (go_simp; done) | (go_simp; rfl)); intro gb301 hg w13 hbox hb; have n0_ := Aside0.mk (IsS119.below z127_11 hb); have n1_ := Aside0.mk (blk_below (g := gb291) (o := .cells #[.int .i64 0, .int .i64 0, .int .i64 0, .int .i64 0, .int .i64 0, .int .i64 0] 75 (0, 0)) (pB127_ BK291.out) hb); have n2_ := Aside0.mk (KeepBut.trans z127_0 (KeepBut.of_below hb g none) (.inl rfl)); have n3_ := Aside0.mk (below_step z127_12 hb); have n4_ := Aside0.mk (hbox); have n5_ := Aside0.mk ((z127_18 : w.heap.size ≤ gb301)); have n6_ := Aside0.mk ((Nat.le_trans HW0.out (z127_18 : w.heap.size ≤ gb301) : w0.heap.size ≤ gb301)); have n7_ := Aside0.mk ((z127_15 : gb291 ≠ gb301)); have n8_ := Aside0.mk ((z127_16 : gb301 ≠ gb291)); have n9_ := Aside0.mk ((z127_7 : g ≠ gb301)); have n10_ := Aside0.mk ((z127_8 : gb301 ≠ g)); clear HI0; clear BK291; clear HK; clear HB; have HI0 := n0_; have BK291 := n1_; have HK := n2_; have HB := n3_; have BK301 := n4_; have GW301 := n5_; have GE301 := n6_; have NB291_301 := n7_; have NB301_291 := n8_; have NB0_301 := n9_; have NB301_0 := n10_; clear n0_ n1_ n2_ n3_ n4_ n5_ n6_ n7_ n8_ n9_ n10_; clear hb hbox hg; have hnb14 := NB301_291.out; have hnc14 := NB291_301.out; have hnb15 := NB301_0.out; have hnc15 := NB0_301.out; have hcz16_0 : w13.cell? ⟨gb301, 0, none⟩ = some (.int .i64 0) := (bC_ BK301.out 0).trans rfl; have hcz16_1 : w13.cell? ⟨gb301, 1, none⟩ = some (.int .i64 0) := (bC_ BK301.out 1).trans rfl; have hcz16_2 : w13.cell? ⟨gb301, 2, none⟩ = some (.int .i64 0) := (bC_ BK301.out 2).trans rfl; have hcz16_3 : w13.cell? ⟨gb301, 3, none⟩ = some (.int .i64 0) := (bC_ BK301.out 3).trans rfl; have hcz16_4 : w13.cell? ⟨gb301, 4, none⟩ = some (.int .i64 0) := (bC_ BK301.out 4).trans rfl; have hcz16_5 : w13.cell? ⟨gb301, 5, none⟩ = some (.int .i64 0) := (bC_ BK301.out 5).trans rfl; have hfz16_0 := bF_ BK301.out 0; have hfz16_1 := bF_ BK301.out 1; have hfz16_2 := bF_ BK301.out 2; have hfz16_3 := bF_ BK301.out 3; have hfz16_4 := bF_ BK301.out 4; have hfz16_5 := bF_ BK301.out 5))
    have n0_ : Aside0 (((((((w13.setCell ⟨gb301, 0, none⟩ (.int .i64 (wrap64 (1 + t292)))).setCell ⟨gb301, 1, none⟩ (.int .i64 0)).setCell ⟨gb301, 2, none⟩ (.int .i64 0)).setCell ⟨gb301, 3, none⟩ (.int .i64 t295)).setCell ⟨gb301, 4, none⟩ (.int .i64 t298)).setCell ⟨gb301, 5, none⟩ (.int .i64 0)).heap[gb291]? = some (.cells #[.int .i64 0, .int .i64 0, .int .i64 0, .int .i64 0, .int .i64 0, .int .i64 0] 75 (0, 0))) := ⟨by (with_reducible repeat (first | refine blk_drewN ?_ _ | refine blk_drew ?_ | refine blk_alloc ?_ _)); refine blk_far ?_ NB291_301.out _; (with_reducible repeat (first | refine blk_drewN ?_ _ | refine blk_drew ?_ | refine blk_alloc ?_ _)); refine blk_far ?_ NB291_301.out _; (with_reducible repeat (first | refine blk_drewN ?_ _ | refine blk_drew ?_ | refine blk_alloc ?_ _)); refine blk_far ?_ NB291_301.out _; (with_reducible repeat (first | refine blk_drewN ?_ _ | refine blk_drew ?_ | refine blk_alloc ?_ _)); refine blk_far ?_ NB291_301.out _; (with_reducible repeat (first | refine blk_drewN ?_ _ | refine blk_drew ?_ | refine blk_alloc ?_ _)); refine blk_far ?_ NB291_301.out _; (with_reducible repeat (first | refine blk_drewN ?_ _ | refine blk_drew ?_ | refine blk_alloc ?_ _)); refine blk_far ?_ NB291_301.out _; (with_reducible repeat (first | refine blk_drewN ?_ _ | refine blk_drew ?_ | refine blk_alloc ?_ _)); exact BK291.out⟩
    have n1_ : Aside0 (((((((w13.setCell ⟨gb301, 0, none⟩ (.int .i64 (wrap64 (1 + t292)))).setCell ⟨gb301, 1, none⟩ (.int .i64 0)).setCell ⟨gb301, 2, none⟩ (.int .i64 0)).setCell ⟨gb301, 3, none⟩ (.int .i64 t295)).setCell ⟨gb301, 4, none⟩ (.int .i64 t298)).setCell ⟨gb301, 5, none⟩ (.int .i64 0)).heap[gb301]? = some (.cells #[.int .i64 (wrap64 (1 + t292)), .int .i64 0, .int .i64 0, .int .i64 t295, .int .i64 t298, .int .i64 0] 75 (0, 0))) := ⟨by (with_reducible repeat (first | refine blk_drewN ?_ _ | refine blk_drew ?_ | refine blk_alloc ?_ _)); refine blk_put (cs := #[.int .i64 (wrap64 (1 + t292)), .int .i64 0, .int .i64 0, .int .i64 t295, .int .i64 t298, .int .i64 0]) ?_ 5 _ rfl; (with_reducible repeat (first | refine blk_drewN ?_ _ | refine blk_drew ?_ | refine blk_alloc ?_ _)); refine blk_put (cs := #[.int .i64 (wrap64 (1 + t292)), .int .i64 0, .int .i64 0, .int .i64 t295, .int .i64 0, .int .i64 0]) ?_ 4 _ rfl; (with_reducible repeat (first | refine blk_drewN ?_ _ | refine blk_drew ?_ | refine blk_alloc ?_ _)); refine blk_put (cs := #[.int .i64 (wrap64 (1 + t292)), .int .i64 0, .int .i64 0, .int .i64 0, .int .i64 0, .int .i64 0]) ?_ 3 _ rfl; (with_reducible repeat (first | refine blk_drewN ?_ _ | refine blk_drew ?_ | refine blk_alloc ?_ _)); refine blk_put (cs := #[.int .i64 (wrap64 (1 + t292)), .int .i64 0, .int .i64 0, .int .i64 0, .int .i64 0, .int .i64 0]) ?_ 2 _ rfl; (with_reducible repeat (first | refine blk_drewN ?_ _ | refine blk_drew ?_ | refine blk_alloc ?_ _)); refine blk_put (cs := #[.int .i64 (wrap64 (1 + t292)), .int .i64 0, .int .i64 0, .int .i64 0, .int .i64 0, .int .i64 0]) ?_ 1 _ rfl; (with_reducible repeat (first | refine blk_drewN ?_ _ | refine blk_drew ?_ | refine blk_alloc ?_ _)); refine blk_put (cs := #[.int .i64 0, .int .i64 0, .int .i64 0, .int .i64 0, .int .i64 0, .int .i64 0]) ?_ 0 _ rfl; (with_reducible repeat (first | refine blk_drewN ?_ _ | refine blk_drew ?_ | refine blk_alloc ?_ _)); exact BK301.out⟩
    have n2_ : Aside0 (IsS119 w0 ((((((w13.setCell ⟨gb301, 0, none⟩ (.int .i64 (wrap64 (1 + t292)))).setCell ⟨gb301, 1, none⟩ (.int .i64 0)).setCell ⟨gb301, 2, none⟩ (.int .i64 0)).setCell ⟨gb301, 3, none⟩ (.int .i64 t295)).setCell ⟨gb301, 4, none⟩ (.int .i64 t298)).setCell ⟨gb301, 5, none⟩ (.int .i64 0)) g s0_0 t299 t300) := ⟨by repeat (first | (with_reducible first | exact HI0.out | apply IsS119.alloc | apply IsS119.drewN | apply IsS119.drew | apply IsS119.set_1 | apply IsS119.set_2 | refine IsS119.far ?_ NB0_291.out _ | refine IsS119.far ?_ NB0_301.out _) | exact HI0.out)⟩
    have n3_ : Aside0 (KeepBut w ((((((w13.setCell ⟨gb301, 0, none⟩ (.int .i64 (wrap64 (1 + t292)))).setCell ⟨gb301, 1, none⟩ (.int .i64 0)).setCell ⟨gb301, 2, none⟩ (.int .i64 0)).setCell ⟨gb301, 3, none⟩ (.int .i64 t295)).setCell ⟨gb301, 4, none⟩ (.int .i64 t298)).setCell ⟨gb301, 5, none⟩ (.int .i64 0)) g none) := ⟨by repeat (first | (with_reducible first | exact HK.out | apply KeepBut.set_ | apply keep_drewN | apply keep_drew | apply keep_alloc | refine keep_far ?_ GW291.out _ | refine keep_far ?_ GW301.out _) | exact HK.out)⟩
    have n4_ : Aside0 (Below w0.heap.size w0 ((((((w13.setCell ⟨gb301, 0, none⟩ (.int .i64 (wrap64 (1 + t292)))).setCell ⟨gb301, 1, none⟩ (.int .i64 0)).setCell ⟨gb301, 2, none⟩ (.int .i64 0)).setCell ⟨gb301, 3, none⟩ (.int .i64 t295)).setCell ⟨gb301, 4, none⟩ (.int .i64 t298)).setCell ⟨gb301, 5, none⟩ (.int .i64 0))) := ⟨by repeat (first | (with_reducible first | exact HB.out | apply bA_ | apply bN_ | apply bD_ | refine bS_ ?_ (IsS119.ge HI0.out) | refine bS_ ?_ GE291.out | refine bS_ ?_ GE301.out) | exact HB.out)⟩
    (try clear BK291)
    (try clear BK301)
    (try clear HI0)
    (try clear HK)
    (try clear HB)
    generalize ((((((w13.setCell ⟨gb301, 0, none⟩ (.int .i64 (wrap64 (1 + t292)))).setCell ⟨gb301, 1, none⟩ (.int .i64 0)).setCell ⟨gb301, 2, none⟩ (.int .i64 0)).setCell ⟨gb301, 3, none⟩ (.int .i64 t295)).setCell ⟨gb301, 4, none⟩ (.int .i64 t298)).setCell ⟨gb301, 5, none⟩ (.int .i64 0)) = w17 at n0_ n1_ n2_ n3_ n4_ ⊢
    have BK291 := n0_
    have BK301 := n1_
    have HI0 := n2_
    have HK := n3_
    have HB := n4_
    clear n0_ n1_ n2_ n3_ n4_
    have n0_ := Aside0.mk (blk_drew BK291.out)
    have n1_ := Aside0.mk (blk_drew BK301.out)
    have n2_ := Aside0.mk (IsS119.drew HI0.out)
    have n3_ := Aside0.mk (keep_drew HK.out)
    have n4_ := Aside0.mk (bD_ HB.out)
    clear BK291
    clear BK301
    clear HI0
    clear HK
    clear HB
    have BK291 := n0_
    have BK301 := n1_
    have HI0 := n2_
    have HK := n3_
    have HB := n4_
    clear n0_ n1_ n2_ n3_ n4_
    refine start_ (n := 7) (S := fun w' => w'.cell? ⟨gb301, 0, none⟩ = some (.int .i64 (wrap64 (1 + t292))) ∧ w'.cell? ⟨gb301, 1, none⟩ = some (.int .i64 0) ∧ w'.cell? ⟨gb301, 2, none⟩ = some (.int .i64 0) ∧ w'.cell? ⟨gb301, 3, none⟩ = some (.int .i64 t295) ∧ w'.cell? ⟨gb301, 4, none⟩ = some (.int .i64 t298) ∧ w'.cell? ⟨gb301, 5, none⟩ = some (.int .i64 0)) (ds := [6]) #[false, false, false, false, false, false, false] z127_19 rfl rfl ⟨(bC_ BK301.out 0).trans rfl, (bC_ BK301.out 1).trans rfl, (bC_ BK301.out 2).trans rfl, (bC_ BK301.out 3).trans rfl, (bC_ BK301.out 4).trans rfl, (bC_ BK301.out 5).trans rfl⟩ (fun hHeld => ?_)
    generalize w17.drew = w18 at BK291 BK301 HI0 HK HB hHeld ⊢
    refine pure_ (i := 0) (N := some 12) (v := ?_) (a' := ?_) #[true, false, false, false, false, false, false] rfl rfl z127_19 (fun _ _ _ h => h) (Or.inl ⟨by rfl, ?_⟩) ?_ ?_
    rotate_left
    · intro w'
      go_simp
      with_reducible rfl
    rotate_left
    · simp only [Act.put, List.setIfInBounds_toArray, List.set_cons_zero, List.set_cons_succ, i64_w, i32_w]
      rfl
    refine pure_ (i := 2) (N := some 14) (v := ?_) (a' := ?_) #[true, false, true, false, false, false, false] rfl rfl z127_19 (fun _ _ _ h => h) (Or.inl ⟨by rfl, ?_⟩) ?_ ?_
    rotate_left
    · intro w'
      go_simp
      with_reducible rfl
    rotate_left
    · simp only [Act.put, List.setIfInBounds_toArray, List.set_cons_zero, List.set_cons_succ, i64_w, i32_w]
      rfl
    refine take_ (i := 1) (N := some 13) (v := ?_) (a' := ?_) #[true, true, true, false, false, false, false] rfl rfl z127_19 (fun _ _ _ h => h) (Or.inl ⟨by rfl, ?_⟩) hHeld ?_ ?_
    rotate_left
    · rintro w' ⟨s0, s1, s2, s3, s4, s5⟩
      go_simp
      with_reducible rfl
    rotate_left
    · simp only [Act.put, List.setIfInBounds_toArray, List.set_cons_zero, List.set_cons_succ, i64_w, i32_w]
      rfl
    refine one_ (i := 3) (N := some 15) #[true, true, true, true, false, false, false] rfl rfl z127_19 (by decide) (fun K hK => ?_)
    refine goes_ Try.func105 z127_19 rfl #[.pointer (some ⟨g, 0, none⟩), .int .i64 30] (by rfl) rfl rfl z127_1 ?_
    with_reducible refine (spec_l1Below.calls g s0_0 t299 t300 30 t302 t303 t304 w0 _ ?side1 ?side2 A5.out).mono ?_
    (case side1 => repeat (first | (with_reducible first | exact HI0.out | apply IsS119.alloc | apply IsS119.drewN | apply IsS119.drew | apply IsS119.set_1 | apply IsS119.set_2 | refine IsS119.far ?_ NB0_291.out _ | refine IsS119.far ?_ NB0_301.out _) | exact HI0.out))
    (case side2 => repeat (first | (with_reducible first | exact HB.out | apply bA_ | apply bN_ | apply bD_ | refine bS_ ?_ (IsS119.ge HI0.out) | refine bS_ ?_ GE291.out | refine bS_ ?_ GE301.out) | exact HB.out))
    rintro e w19 ⟨rfl, hi, hb, hk⟩
    refine ⟨_, rfl, ?_⟩
    have n0_ := Aside0.mk (KeepBut.blk hk (g' := gb291) (o := .cells #[.int .i64 0, .int .i64 0, .int .i64 0, .int .i64 0, .int .i64 0, .int .i64 0] 75 (0, 0)) (pB127_ BK291.out) NB291_0.out (by simp))
    have n1_ := Aside0.mk (KeepBut.blk hk (g' := gb301) (o := .cells #[.int .i64 (wrap64 (1 + t292)), .int .i64 0, .int .i64 0, .int .i64 t295, .int .i64 t298, .int .i64 0] 75 (0, 0)) (pB127_ BK301.out) NB301_0.out (by simp))
    have n2_ := Aside0.mk (KeepBut.trans z127_2 hk (.inl rfl))
    have n3_ := Aside0.mk (hb)
    have n4_ := Aside0.mk (hi)
    clear BK291
    clear BK301
    clear HK
    clear HB
    clear HI0
    have BK291 := n0_
    have BK301 := n1_
    have HK := n2_
    have HB := n3_
    have HI0 := n4_
    clear n0_ n1_ n2_ n3_ n4_
    (try clear hb)
    (try clear hb2)
    (try clear hk)
    (try clear hi)
    refine hK.out _ _ ⟨(bC_ BK301.out 0).trans rfl, (bC_ BK301.out 1).trans rfl, (bC_ BK301.out 2).trans rfl, (bC_ BK301.out 3).trans rfl, (bC_ BK301.out 4).trans rfl, (bC_ BK301.out 5).trans rfl⟩ (fun hHeld => ?_)
    clear hK K
    refine norm_ (a' := ?_) ?_ ?_
    rotate_left
    · show Act.put _ (some 15) _ = _
      simp only [Act.put, List.setIfInBounds_toArray, List.set_cons_zero, List.set_cons_succ, i64_w, i32_w]
      rfl
    refine pure_ (i := 4) (N := some 16) (v := ?_) (a' := ?_) #[true, true, true, true, true, false, false] rfl rfl z127_19 (fun _ _ _ h => h) (Or.inl ⟨by rfl, ?_⟩) ?_ ?_
    rotate_left
    · intro w'
      go_simp
      with_reducible rfl
    rotate_left
    · simp only [Act.put, List.setIfInBounds_toArray, List.set_cons_zero, List.set_cons_succ, i64_w, i32_w]
      rfl
    refine pure_ (i := 5) (N := some 17) (v := ?_) (a' := ?_) #[true, true, true, true, true, true, false] rfl rfl z127_19 (fun _ _ _ h => h) (Or.inl ⟨by rfl, ?_⟩) ?_ ?_
    rotate_left
    · intro w'
      go_simp
      with_reducible rfl
    rotate_left
    · simp only [Act.put, List.setIfInBounds_toArray, List.set_cons_zero, List.set_cons_succ, i64_w, i32_w]
      rfl
    refine last_ (i := 6) (N := none) #[true, true, true, true, true, true, true] rfl rfl z127_19 (by decide) (fun K hK => ?_)
    have hs20 : w19.cell? ⟨gb301, 5, none⟩ = some (.int .i64 0) := (bC_ BK301.out 5).trans rfl
    have hfs20 := bF_ BK301.out 5
    have hns20_0 := NB291_301.out
    have hms20_0 := NB301_291.out
    refine skip_ (w1 := ?_) (by rfl) rfl ?_ ?_
    rotate_left
    · go_simp
      rfl
    refine hK.out _ _ ?_
    clear hK K
    refine done_ z127_19 ?_
    have hcz21_0 : w19.cell? ⟨gb301, 0, none⟩ = some (.int .i64 (wrap64 (1 + t292))) := (bC_ BK301.out 0).trans rfl
    have hcz21_1 : w19.cell? ⟨gb301, 1, none⟩ = some (.int .i64 0) := (bC_ BK301.out 1).trans rfl
    have hcz21_2 : w19.cell? ⟨gb301, 2, none⟩ = some (.int .i64 0) := (bC_ BK301.out 2).trans rfl
    have hcz21_3 : w19.cell? ⟨gb301, 3, none⟩ = some (.int .i64 t295) := (bC_ BK301.out 3).trans rfl
    have hcz21_4 : w19.cell? ⟨gb301, 4, none⟩ = some (.int .i64 t298) := (bC_ BK301.out 4).trans rfl
    have hcz21_5 : w19.cell? ⟨gb301, 5, none⟩ = some (.int .i64 0) := (bC_ BK301.out 5).trans rfl
    have hfz21_0 := bF_ BK301.out 0
    have hfz21_1 := bF_ BK301.out 1
    have hfz21_2 := bF_ BK301.out 2
    have hfz21_3 := bF_ BK301.out 3
    have hfz21_4 := bF_ BK301.out 4
    have hfz21_5 := bF_ BK301.out 5
    try go_wp2_with (first | ((with_reducible refine gate_callee (f := 109) rfl ?_); refine goesL_ (some 29) rfl rfl Try.func109 z127_19 rfl #[.pointer (some ⟨g, 0, none⟩), .int .i64 1] rfl z127_1 ?_; (with_reducible refine (spec_l5Name.calls g s0_0 t303 t304 1 t305 t306 t307 w0 _ ?side1 ?side2 A7.out).mono ?_); (case side1 => repeat (first | (with_reducible first | exact HI0.out | apply IsS119.alloc | apply IsS119.drewN | apply IsS119.drew | apply IsS119.set_1 | apply IsS119.set_2 | refine IsS119.far ?_ NB0_291.out _ | refine IsS119.far ?_ NB0_301.out _) | exact HI0.out)); (case side2 => repeat (first | (with_reducible first | exact HB.out | apply bA_ | apply bN_ | apply bD_ | refine bS_ ?_ (IsS119.ge HI0.out) | refine bS_ ?_ GE291.out | refine bS_ ?_ GE301.out) | exact HB.out)); rintro e w22 ⟨rfl, hi, hb, hk⟩; refine ⟨_, rfl, ?_⟩; have n0_ := Aside0.mk (KeepBut.blk hk (g' := gb291) (o := .cells #[.int .i64 0, .int .i64 0, .int .i64 0, .int .i64 0, .int .i64 0, .int .i64 0] 75 (0, 0)) z127_3 NB291_0.out (by simp)); have n1_ := Aside0.mk (KeepBut.blk hk (g' := gb301) (o := .cells #[.int .i64 (wrap64 (1 + t292)), .int .i64 0, .int .i64 0, .int .i64 t295, .int .i64 t298, .int .i64 (wrap64 (t298 + t302))] 75 (0, 0)) z127_6 NB301_0.out (by simp)); have n2_ := Aside0.mk (KeepBut.trans z127_2 hk (.inl rfl)); have n3_ := Aside0.mk (hb); have n4_ := Aside0.mk (hi); clear BK291; clear BK301; clear HK; clear HB; clear HI0; have BK291 := n0_; have BK301 := n1_; have HK := n2_; have HB := n3_; have HI0 := n4_; clear n0_ n1_ n2_ n3_ n4_; (try clear hb); (try clear hb2); (try clear hk); (try clear hi); have hcz23_0 : w22.cell? ⟨gb301, 0, none⟩ = some (.int .i64 (wrap64 (1 + t292))) := (bC_ BK301.out 0).trans rfl; have hcz23_1 : w22.cell? ⟨gb301, 1, none⟩ = some (.int .i64 0) := (bC_ BK301.out 1).trans rfl; have hcz23_2 : w22.cell? ⟨gb301, 2, none⟩ = some (.int .i64 0) := (bC_ BK301.out 2).trans rfl; have hcz23_3 : w22.cell? ⟨gb301, 3, none⟩ = some (.int .i64 t295) := (bC_ BK301.out 3).trans rfl; have hcz23_4 : w22.cell? ⟨gb301, 4, none⟩ = some (.int .i64 t298) := (bC_ BK301.out 4).trans rfl; have hcz23_5 : w22.cell? ⟨gb301, 5, none⟩ = some (.int .i64 (wrap64 (t298 + t302))) := (bC_ BK301.out 5).trans rfl; have hfz23_0 := bF_ BK301.out 0; have hfz23_1 := bF_ BK301.out 1; have hfz23_2 := bF_ BK301.out 2; have hfz23_3 := bF_ BK301.out 3; have hfz23_4 := bF_ BK301.out 4; have hfz23_5 := bF_ BK301.out 5) | ((with_reducible refine gate_callee (f := 105) rfl ?_); refine goesL_ (some 32) rfl rfl Try.func105 z127_19 rfl #[.pointer (some ⟨g, 0, none⟩), .int .i64 4] rfl z127_1 ?_; (with_reducible refine (spec_l1Below.calls g s0_0 t306 t307 4 t308 t309 t310 w0 _ ?side1 ?side2 A8.out).mono ?_); (case side1 => repeat (first | (with_reducible first | exact HI0.out | apply IsS119.alloc | apply IsS119.drewN | apply IsS119.drew | apply IsS119.set_1 | apply IsS119.set_2 | refine IsS119.far ?_ NB0_291.out _ | refine IsS119.far ?_ NB0_301.out _) | exact HI0.out)); (case side2 => repeat (first | (with_reducible first | exact HB.out | apply bA_ | apply bN_ | apply bD_ | refine bS_ ?_ (IsS119.ge HI0.out) | refine bS_ ?_ GE291.out | refine bS_ ?_ GE301.out) | exact HB.out)); rintro e w24 ⟨rfl, hi, hb, hk⟩; refine ⟨_, rfl, ?_⟩; have n0_ := Aside0.mk (KeepBut.blk hk (g' := gb291) (o := .cells #[.int .i64 0, .int .i64 0, .int .i64 0, .int .i64 0, .int .i64 0, .int .i64 0] 75 (0, 0)) z127_3 NB291_0.out (by simp)); have n1_ := Aside0.mk (KeepBut.blk hk (g' := gb301) (o := .cells #[.int .i64 (wrap64 (1 + t292)), .int .i64 t305, .int .i64 0, .int .i64 t295, .int .i64 t298, .int .i64 (wrap64 (t298 + t302))] 75 (0, 0)) z127_5 NB301_0.out (by simp)); have n2_ := Aside0.mk (KeepBut.trans z127_2 hk (.inl rfl)); have n3_ := Aside0.mk (hb); have n4_ := Aside0.mk (hi); clear BK291; clear BK301; clear HK; clear HB; clear HI0; have BK291 := n0_; have BK301 := n1_; have HK := n2_; have HB := n3_; have HI0 := n4_; clear n0_ n1_ n2_ n3_ n4_; (try clear hb); (try clear hb2); (try clear hk); (try clear hi); have hcz25_0 : w24.cell? ⟨gb301, 0, none⟩ = some (.int .i64 (wrap64 (1 + t292))) := (bC_ BK301.out 0).trans rfl; have hcz25_1 : w24.cell? ⟨gb301, 1, none⟩ = some (.int .i64 t305) := (bC_ BK301.out 1).trans rfl; have hcz25_2 : w24.cell? ⟨gb301, 2, none⟩ = some (.int .i64 0) := (bC_ BK301.out 2).trans rfl; have hcz25_3 : w24.cell? ⟨gb301, 3, none⟩ = some (.int .i64 t295) := (bC_ BK301.out 3).trans rfl; have hcz25_4 : w24.cell? ⟨gb301, 4, none⟩ = some (.int .i64 t298) := (bC_ BK301.out 4).trans rfl; have hcz25_5 : w24.cell? ⟨gb301, 5, none⟩ = some (.int .i64 (wrap64 (t298 + t302))) := (bC_ BK301.out 5).trans rfl; have hfz25_0 := bF_ BK301.out 0; have hfz25_1 := bF_ BK301.out 1; have hfz25_2 := bF_ BK301.out 2; have hfz25_3 := bF_ BK301.out 3; have hfz25_4 := bF_ BK301.out 4; have hfz25_5 := bF_ BK301.out 5; have hnb26 := NB291_0.out; have hnc26 := NB0_291.out; have hcz27_0 : w24.cell? ⟨gb291, 0, none⟩ = some (.int .i64 0) := (bC_ BK291.out 0).trans rfl; have hcz27_1 : w24.cell? ⟨gb291, 1, none⟩ = some (.int .i64 0) := (bC_ BK291.out 1).trans rfl; have hcz27_2 : w24.cell? ⟨gb291, 2, none⟩ = some (.int .i64 0) := (bC_ BK291.out 2).trans rfl; have hcz27_3 : w24.cell? ⟨gb291, 3, none⟩ = some (.int .i64 0) := (bC_ BK291.out 3).trans rfl; have hcz27_4 : w24.cell? ⟨gb291, 4, none⟩ = some (.int .i64 0) := (bC_ BK291.out 4).trans rfl; have hcz27_5 : w24.cell? ⟨gb291, 5, none⟩ = some (.int .i64 0) := (bC_ BK291.out 5).trans rfl; have hfz27_0 := bF_ BK291.out 0; have hfz27_1 := bF_ BK291.out 1; have hfz27_2 := bF_ BK291.out 2; have hfz27_3 := bF_ BK291.out 3; have hfz27_4 := bF_ BK291.out 4; have hfz27_5 := bF_ BK291.out 5))
    refine bodyPost_ret (results_cell_row rfl _ _ gb291 75 #[.int .i64 (wrap64 (1 + t292)), .int .i64 t305, .int .i64 t308, .int .i64 t295, .int .i64 t298, .int .i64 (wrap64 (t298 + t302))] (0, 0) _ rfl (by (with_reducible repeat (first | refine blk_drewN ?_ _ | refine blk_drew ?_ | refine blk_alloc ?_ _)); refine blk_put (cs := #[.int .i64 (wrap64 (1 + t292)), .int .i64 t305, .int .i64 t308, .int .i64 t295, .int .i64 t298, .int .i64 0]) ?_ 5 _ rfl; (with_reducible repeat (first | refine blk_drewN ?_ _ | refine blk_drew ?_ | refine blk_alloc ?_ _)); refine blk_put (cs := #[.int .i64 (wrap64 (1 + t292)), .int .i64 t305, .int .i64 t308, .int .i64 t295, .int .i64 0, .int .i64 0]) ?_ 4 _ rfl; (with_reducible repeat (first | refine blk_drewN ?_ _ | refine blk_drew ?_ | refine blk_alloc ?_ _)); refine blk_put (cs := #[.int .i64 (wrap64 (1 + t292)), .int .i64 t305, .int .i64 t308, .int .i64 0, .int .i64 0, .int .i64 0]) ?_ 3 _ rfl; (with_reducible repeat (first | refine blk_drewN ?_ _ | refine blk_drew ?_ | refine blk_alloc ?_ _)); refine blk_put (cs := #[.int .i64 (wrap64 (1 + t292)), .int .i64 t305, .int .i64 0, .int .i64 0, .int .i64 0, .int .i64 0]) ?_ 2 _ rfl; (with_reducible repeat (first | refine blk_drewN ?_ _ | refine blk_drew ?_ | refine blk_alloc ?_ _)); refine blk_put (cs := #[.int .i64 (wrap64 (1 + t292)), .int .i64 0, .int .i64 0, .int .i64 0, .int .i64 0, .int .i64 0]) ?_ 1 _ rfl; (with_reducible repeat (first | refine blk_drewN ?_ _ | refine blk_drew ?_ | refine blk_alloc ?_ _)); refine blk_put (cs := #[.int .i64 0, .int .i64 0, .int .i64 0, .int .i64 0, .int .i64 0, .int .i64 0]) ?_ 0 _ rfl; (with_reducible repeat (first | refine blk_drewN ?_ _ | refine blk_drew ?_ | refine blk_alloc ?_ _)); refine blk_far ?_ NB291_301.out _; (with_reducible repeat (first | refine blk_drewN ?_ _ | refine blk_drew ?_ | refine blk_alloc ?_ _)); exact BK291.out) Try.underlying75 rfl z127_19) rfl ?_
    exact ⟨by first | rfl | (simp [errW_none, errW_some] <;> rfl) | (simp [*, errW_none, errW_some] <;> rfl), by repeat (first | (with_reducible first | exact HI0.out | apply IsS119.alloc | apply IsS119.drewN | apply IsS119.drew | apply IsS119.set_1 | apply IsS119.set_2 | refine IsS119.far ?_ NB0_291.out _ | refine IsS119.far ?_ NB0_301.out _) | exact HI0.out), by repeat (first | (with_reducible first | exact HB.out | apply bA_ | apply bN_ | apply bD_ | refine bS_ ?_ (IsS119.ge HI0.out) | refine bS_ ?_ GE291.out | refine bS_ ?_ GE301.out) | exact HB.out), by repeat (first | (with_reducible first | exact HK.out | apply KeepBut.set_ | apply keep_drewN | apply keep_drew | apply keep_alloc | refine keep_far ?_ GW291.out _ | refine keep_far ?_ GW301.out _) | exact HK.out)⟩
  · rw [if_neg c6] at H
    have c6b0 : ((wrap64 (1 + t292)) == 1) = false := beq_eq_false_iff_ne.mpr c6
    have c6b1 : ((wrap64 (1 + t292)) != 1) = true := bne_iff_ne.mpr c6
    by_cases c28 : (wrap64 (1 + t292)) = 2
    · rw [if_pos c28] at H
      have c28b0 : ((wrap64 (1 + t292)) == 2) = true := beq_iff_eq.mpr c28
      have c28b1 : ((wrap64 (1 + t292)) != 2) = false := bne_eq_false_iff_eq.mpr c28
      clear c28
      replace H := Option.bind_eq_some_iff.mp H
      obtain ⟨⟨t311, t312, t313⟩, A290, H⟩ := H
      replace H : ((spec_l5Name.f s0_0 t312 t313 2).bind fun bt314 => (some (wrap64 (1 + t292), t311, bt314.1, t295, t298, wrap64 (t298 + t302), bt314.2.1, bt314.2.2))) = some (r1, r2, r3, r4, r5, r6, r7, r8) := H
      have A29 := Aside0.mk A290
      clear A290
      replace H := Option.bind_eq_some_iff.mp H
      obtain ⟨⟨t314, t315, t316⟩, A300, H⟩ := H
      replace H : (some (wrap64 (1 + t292), t311, t314, t295, t298, wrap64 (t298 + t302), t315, t316)) = some (r1, r2, r3, r4, r5, r6, r7, r8) := H
      have A30 := Aside0.mk A300
      clear A300
      simp only [Option.some.injEq, Prod.mk.injEq] at H
      obtain ⟨rfl, rfl, rfl, rfl, rfl, rfl, rfl, rfl⟩ := H
      go_enter Try.func127, Try.ntmps127
      try go_wp2_with (first | ((with_reducible refine gate_dst (N := 2) rfl ?_); refine box_event ?hg (N := 2) ?hd (cs := #[.int .i64 0, .int .i64 0, .int .i64 0, .int .i64 0, .int .i64 0, .int .i64 0]) (t := 75) ?hr ?_; (case hd => rfl); (case hg => rfl); (case hr => first | (go_simp; done) | (go_simp; rfl)); intro gb291 hg w31 hbox hb; have n0_ := Aside0.mk (IsS119.below z127_13 hb); have n1_ := Aside0.mk (KeepBut.trans z127_4 (KeepBut.of_below hb g none) (.inl rfl)); have n2_ := Aside0.mk (below_step z127_14 hb); have n3_ := Aside0.mk (hbox); have n4_ := Aside0.mk ((z127_17 : w.heap.size ≤ gb291)); have n5_ := Aside0.mk ((Nat.le_trans HW0.out (z127_17 : w.heap.size ≤ gb291) : w0.heap.size ≤ gb291)); have n6_ := Aside0.mk ((z127_9 : g ≠ gb291)); have n7_ := Aside0.mk ((z127_10 : gb291 ≠ g)); clear HI0; clear HK; clear HB; have HI0 := n0_; have HK := n1_; have HB := n2_; have BK291 := n3_; have GW291 := n4_; have GE291 := n5_; have NB0_291 := n6_; have NB291_0 := n7_; clear n0_ n1_ n2_ n3_ n4_ n5_ n6_ n7_; clear hb hbox hg) | ((with_reducible refine gate_callee (f := 105) rfl ?_); refine goesL_ (some 5) rfl rfl Try.func105 z127_19 rfl #[.pointer (some ⟨g, 0, none⟩), .int .i64 4] rfl z127_1 ?_; (with_reducible refine (spec_l1Below.calls g s0_0 s0_1 s0_2 4 t292 t293 t294 w0 _ ?side1 ?side2 A2.out).mono ?_); (case side1 => repeat (first | (with_reducible first | exact HI0.out | apply IsS119.alloc | apply IsS119.drewN | apply IsS119.drew | apply IsS119.set_1 | apply IsS119.set_2 | refine IsS119.far ?_ NB0_291.out _) | exact HI0.out)); (case side2 => repeat (first | (with_reducible first | exact HB.out | apply bA_ | apply bN_ | apply bD_ | refine bS_ ?_ (IsS119.ge HI0.out) | refine bS_ ?_ GE291.out) | exact HB.out)); rintro e w32 ⟨rfl, hi, hb, hk⟩; refine ⟨_, rfl, ?_⟩; have n0_ := Aside0.mk (KeepBut.blk hk (g' := gb291) (o := .cells #[.int .i64 0, .int .i64 0, .int .i64 0, .int .i64 0, .int .i64 0, .int .i64 0] 75 (0, 0)) (pB127_ BK291.out) NB291_0.out (by simp)); have n1_ := Aside0.mk (KeepBut.trans z127_0 hk (.inl rfl)); have n2_ := Aside0.mk (hb); have n3_ := Aside0.mk (hi); clear BK291; clear HK; clear HB; clear HI0; have BK291 := n0_; have HK := n1_; have HB := n2_; have HI0 := n3_; clear n0_ n1_ n2_ n3_; (try clear hb); (try clear hb2); (try clear hk); (try clear hi)) | ((with_reducible refine gate_callee (f := 105) rfl ?_); refine goesL_ (some 8) rfl rfl Try.func105 z127_19 rfl #[.pointer (some ⟨g, 0, none⟩), .int .i64 3] rfl z127_1 ?_; (with_reducible refine (spec_l1Below.calls g s0_0 t293 t294 3 t295 t296 t297 w0 _ ?side1 ?side2 A3.out).mono ?_); (case side1 => repeat (first | (with_reducible first | exact HI0.out | apply IsS119.alloc | apply IsS119.drewN | apply IsS119.drew | apply IsS119.set_1 | apply IsS119.set_2 | refine IsS119.far ?_ NB0_291.out _) | exact HI0.out)); (case side2 => repeat (first | (with_reducible first | exact HB.out | apply bA_ | apply bN_ | apply bD_ | refine bS_ ?_ (IsS119.ge HI0.out) | refine bS_ ?_ GE291.out) | exact HB.out)); rintro e w33 ⟨rfl, hi, hb, hk⟩; refine ⟨_, rfl, ?_⟩; have n0_ := Aside0.mk (KeepBut.blk hk (g' := gb291) (o := .cells #[.int .i64 0, .int .i64 0, .int .i64 0, .int .i64 0, .int .i64 0, .int .i64 0] 75 (0, 0)) (pB127_ BK291.out) NB291_0.out (by simp)); have n1_ := Aside0.mk (KeepBut.trans z127_0 hk (.inl rfl)); have n2_ := Aside0.mk (hb); have n3_ := Aside0.mk (hi); clear BK291; clear HK; clear HB; clear HI0; have BK291 := n0_; have HK := n1_; have HB := n2_; have HI0 := n3_; clear n0_ n1_ n2_ n3_; (try clear hb); (try clear hb2); (try clear hk); (try clear hi)) | ((with_reducible refine gate_callee (f := 105) rfl ?_); refine goesL_ (some 10) rfl rfl Try.func105 z127_19 rfl #[.pointer (some ⟨g, 0, none⟩), .int .i64 20] rfl z127_1 ?_; (with_reducible refine (spec_l1Below.calls g s0_0 t296 t297 20 t298 t299 t300 w0 _ ?side1 ?side2 A4.out).mono ?_); (case side1 => repeat (first | (with_reducible first | exact HI0.out | apply IsS119.alloc | apply IsS119.drewN | apply IsS119.drew | apply IsS119.set_1 | apply IsS119.set_2 | refine IsS119.far ?_ NB0_291.out _) | exact HI0.out)); (case side2 => repeat (first | (with_reducible first | exact HB.out | apply bA_ | apply bN_ | apply bD_ | refine bS_ ?_ (IsS119.ge HI0.out) | refine bS_ ?_ GE291.out) | exact HB.out)); rintro e w34 ⟨rfl, hi, hb, hk⟩; refine ⟨_, rfl, ?_⟩; have n0_ := Aside0.mk (KeepBut.blk hk (g' := gb291) (o := .cells #[.int .i64 0, .int .i64 0, .int .i64 0, .int .i64 0, .int .i64 0, .int .i64 0] 75 (0, 0)) (pB127_ BK291.out) NB291_0.out (by simp)); have n1_ := Aside0.mk (KeepBut.trans z127_0 hk (.inl rfl)); have n2_ := Aside0.mk (hb); have n3_ := Aside0.mk (hi); clear BK291; clear HK; clear HB; clear HI0; have BK291 := n0_; have HK := n1_; have HB := n2_; have HI0 := n3_; clear n0_ n1_ n2_ n3_; (try clear hb); (try clear hb2); (try clear hk); (try clear hi)) | ((with_reducible refine gate_dst (N := 3) rfl ?_); refine box_event ?hg (N := 3) ?hd (cs := #[.int .i64 0, .int .i64 0, .int .i64 0, .int .i64 0, .int .i64 0, .int .i64 0]) (t := 75) ?hr ?_; (case hd => rfl); (case hg => rfl); (case hr => first | (go_simp; done) | (go_simp; rfl)); intro gb301 hg w35 hbox hb; have n0_ := Aside0.mk (IsS119.below z127_11 hb); have n1_ := Aside0.mk (blk_below (g := gb291) (o := .cells #[.int .i64 0, .int .i64 0, .int .i64 0, .int .i64 0, .int .i64 0, .int .i64 0] 75 (0, 0)) (pB127_ BK291.out) hb); have n2_ := Aside0.mk (KeepBut.trans z127_0 (KeepBut.of_below hb g none) (.inl rfl)); have n3_ := Aside0.mk (below_step z127_12 hb); have n4_ := Aside0.mk (hbox); have n5_ := Aside0.mk ((z127_18 : w.heap.size ≤ gb301)); have n6_ := Aside0.mk ((Nat.le_trans HW0.out (z127_18 : w.heap.size ≤ gb301) : w0.heap.size ≤ gb301)); have n7_ := Aside0.mk ((z127_15 : gb291 ≠ gb301)); have n8_ := Aside0.mk ((z127_16 : gb301 ≠ gb291)); have n9_ := Aside0.mk ((z127_7 : g ≠ gb301)); have n10_ := Aside0.mk ((z127_8 : gb301 ≠ g)); clear HI0; clear BK291; clear HK; clear HB; have HI0 := n0_; have BK291 := n1_; have HK := n2_; have HB := n3_; have BK301 := n4_; have GW301 := n5_; have GE301 := n6_; have NB291_301 := n7_; have NB301_291 := n8_; have NB0_301 := n9_; have NB301_0 := n10_; clear n0_ n1_ n2_ n3_ n4_ n5_ n6_ n7_ n8_ n9_ n10_; clear hb hbox hg; have hnb36 := NB301_291.out; have hnc36 := NB291_301.out; have hnb37 := NB301_0.out; have hnc37 := NB0_301.out; have hcz38_0 : w35.cell? ⟨gb301, 0, none⟩ = some (.int .i64 0) := (bC_ BK301.out 0).trans rfl; have hcz38_1 : w35.cell? ⟨gb301, 1, none⟩ = some (.int .i64 0) := (bC_ BK301.out 1).trans rfl; have hcz38_2 : w35.cell? ⟨gb301, 2, none⟩ = some (.int .i64 0) := (bC_ BK301.out 2).trans rfl; have hcz38_3 : w35.cell? ⟨gb301, 3, none⟩ = some (.int .i64 0) := (bC_ BK301.out 3).trans rfl; have hcz38_4 : w35.cell? ⟨gb301, 4, none⟩ = some (.int .i64 0) := (bC_ BK301.out 4).trans rfl; have hcz38_5 : w35.cell? ⟨gb301, 5, none⟩ = some (.int .i64 0) := (bC_ BK301.out 5).trans rfl; have hfz38_0 := bF_ BK301.out 0; have hfz38_1 := bF_ BK301.out 1; have hfz38_2 := bF_ BK301.out 2; have hfz38_3 := bF_ BK301.out 3; have hfz38_4 := bF_ BK301.out 4; have hfz38_5 := bF_ BK301.out 5))
      have n0_ : Aside0 (((((((w35.setCell ⟨gb301, 0, none⟩ (.int .i64 (wrap64 (1 + t292)))).setCell ⟨gb301, 1, none⟩ (.int .i64 0)).setCell ⟨gb301, 2, none⟩ (.int .i64 0)).setCell ⟨gb301, 3, none⟩ (.int .i64 t295)).setCell ⟨gb301, 4, none⟩ (.int .i64 t298)).setCell ⟨gb301, 5, none⟩ (.int .i64 0)).heap[gb291]? = some (.cells #[.int .i64 0, .int .i64 0, .int .i64 0, .int .i64 0, .int .i64 0, .int .i64 0] 75 (0, 0))) := ⟨by (with_reducible repeat (first | refine blk_drewN ?_ _ | refine blk_drew ?_ | refine blk_alloc ?_ _)); refine blk_far ?_ NB291_301.out _; (with_reducible repeat (first | refine blk_drewN ?_ _ | refine blk_drew ?_ | refine blk_alloc ?_ _)); refine blk_far ?_ NB291_301.out _; (with_reducible repeat (first | refine blk_drewN ?_ _ | refine blk_drew ?_ | refine blk_alloc ?_ _)); refine blk_far ?_ NB291_301.out _; (with_reducible repeat (first | refine blk_drewN ?_ _ | refine blk_drew ?_ | refine blk_alloc ?_ _)); refine blk_far ?_ NB291_301.out _; (with_reducible repeat (first | refine blk_drewN ?_ _ | refine blk_drew ?_ | refine blk_alloc ?_ _)); refine blk_far ?_ NB291_301.out _; (with_reducible repeat (first | refine blk_drewN ?_ _ | refine blk_drew ?_ | refine blk_alloc ?_ _)); refine blk_far ?_ NB291_301.out _; (with_reducible repeat (first | refine blk_drewN ?_ _ | refine blk_drew ?_ | refine blk_alloc ?_ _)); exact BK291.out⟩
      have n1_ : Aside0 (((((((w35.setCell ⟨gb301, 0, none⟩ (.int .i64 (wrap64 (1 + t292)))).setCell ⟨gb301, 1, none⟩ (.int .i64 0)).setCell ⟨gb301, 2, none⟩ (.int .i64 0)).setCell ⟨gb301, 3, none⟩ (.int .i64 t295)).setCell ⟨gb301, 4, none⟩ (.int .i64 t298)).setCell ⟨gb301, 5, none⟩ (.int .i64 0)).heap[gb301]? = some (.cells #[.int .i64 (wrap64 (1 + t292)), .int .i64 0, .int .i64 0, .int .i64 t295, .int .i64 t298, .int .i64 0] 75 (0, 0))) := ⟨by (with_reducible repeat (first | refine blk_drewN ?_ _ | refine blk_drew ?_ | refine blk_alloc ?_ _)); refine blk_put (cs := #[.int .i64 (wrap64 (1 + t292)), .int .i64 0, .int .i64 0, .int .i64 t295, .int .i64 t298, .int .i64 0]) ?_ 5 _ rfl; (with_reducible repeat (first | refine blk_drewN ?_ _ | refine blk_drew ?_ | refine blk_alloc ?_ _)); refine blk_put (cs := #[.int .i64 (wrap64 (1 + t292)), .int .i64 0, .int .i64 0, .int .i64 t295, .int .i64 0, .int .i64 0]) ?_ 4 _ rfl; (with_reducible repeat (first | refine blk_drewN ?_ _ | refine blk_drew ?_ | refine blk_alloc ?_ _)); refine blk_put (cs := #[.int .i64 (wrap64 (1 + t292)), .int .i64 0, .int .i64 0, .int .i64 0, .int .i64 0, .int .i64 0]) ?_ 3 _ rfl; (with_reducible repeat (first | refine blk_drewN ?_ _ | refine blk_drew ?_ | refine blk_alloc ?_ _)); refine blk_put (cs := #[.int .i64 (wrap64 (1 + t292)), .int .i64 0, .int .i64 0, .int .i64 0, .int .i64 0, .int .i64 0]) ?_ 2 _ rfl; (with_reducible repeat (first | refine blk_drewN ?_ _ | refine blk_drew ?_ | refine blk_alloc ?_ _)); refine blk_put (cs := #[.int .i64 (wrap64 (1 + t292)), .int .i64 0, .int .i64 0, .int .i64 0, .int .i64 0, .int .i64 0]) ?_ 1 _ rfl; (with_reducible repeat (first | refine blk_drewN ?_ _ | refine blk_drew ?_ | refine blk_alloc ?_ _)); refine blk_put (cs := #[.int .i64 0, .int .i64 0, .int .i64 0, .int .i64 0, .int .i64 0, .int .i64 0]) ?_ 0 _ rfl; (with_reducible repeat (first | refine blk_drewN ?_ _ | refine blk_drew ?_ | refine blk_alloc ?_ _)); exact BK301.out⟩
      have n2_ : Aside0 (IsS119 w0 ((((((w35.setCell ⟨gb301, 0, none⟩ (.int .i64 (wrap64 (1 + t292)))).setCell ⟨gb301, 1, none⟩ (.int .i64 0)).setCell ⟨gb301, 2, none⟩ (.int .i64 0)).setCell ⟨gb301, 3, none⟩ (.int .i64 t295)).setCell ⟨gb301, 4, none⟩ (.int .i64 t298)).setCell ⟨gb301, 5, none⟩ (.int .i64 0)) g s0_0 t299 t300) := ⟨by repeat (first | (with_reducible first | exact HI0.out | apply IsS119.alloc | apply IsS119.drewN | apply IsS119.drew | apply IsS119.set_1 | apply IsS119.set_2 | refine IsS119.far ?_ NB0_291.out _ | refine IsS119.far ?_ NB0_301.out _) | exact HI0.out)⟩
      have n3_ : Aside0 (KeepBut w ((((((w35.setCell ⟨gb301, 0, none⟩ (.int .i64 (wrap64 (1 + t292)))).setCell ⟨gb301, 1, none⟩ (.int .i64 0)).setCell ⟨gb301, 2, none⟩ (.int .i64 0)).setCell ⟨gb301, 3, none⟩ (.int .i64 t295)).setCell ⟨gb301, 4, none⟩ (.int .i64 t298)).setCell ⟨gb301, 5, none⟩ (.int .i64 0)) g none) := ⟨by repeat (first | (with_reducible first | exact HK.out | apply KeepBut.set_ | apply keep_drewN | apply keep_drew | apply keep_alloc | refine keep_far ?_ GW291.out _ | refine keep_far ?_ GW301.out _) | exact HK.out)⟩
      have n4_ : Aside0 (Below w0.heap.size w0 ((((((w35.setCell ⟨gb301, 0, none⟩ (.int .i64 (wrap64 (1 + t292)))).setCell ⟨gb301, 1, none⟩ (.int .i64 0)).setCell ⟨gb301, 2, none⟩ (.int .i64 0)).setCell ⟨gb301, 3, none⟩ (.int .i64 t295)).setCell ⟨gb301, 4, none⟩ (.int .i64 t298)).setCell ⟨gb301, 5, none⟩ (.int .i64 0))) := ⟨by repeat (first | (with_reducible first | exact HB.out | apply bA_ | apply bN_ | apply bD_ | refine bS_ ?_ (IsS119.ge HI0.out) | refine bS_ ?_ GE291.out | refine bS_ ?_ GE301.out) | exact HB.out)⟩
      (try clear BK291)
      (try clear BK301)
      (try clear HI0)
      (try clear HK)
      (try clear HB)
      generalize ((((((w35.setCell ⟨gb301, 0, none⟩ (.int .i64 (wrap64 (1 + t292)))).setCell ⟨gb301, 1, none⟩ (.int .i64 0)).setCell ⟨gb301, 2, none⟩ (.int .i64 0)).setCell ⟨gb301, 3, none⟩ (.int .i64 t295)).setCell ⟨gb301, 4, none⟩ (.int .i64 t298)).setCell ⟨gb301, 5, none⟩ (.int .i64 0)) = w39 at n0_ n1_ n2_ n3_ n4_ ⊢
      have BK291 := n0_
      have BK301 := n1_
      have HI0 := n2_
      have HK := n3_
      have HB := n4_
      clear n0_ n1_ n2_ n3_ n4_
      have n0_ := Aside0.mk (blk_drew BK291.out)
      have n1_ := Aside0.mk (blk_drew BK301.out)
      have n2_ := Aside0.mk (IsS119.drew HI0.out)
      have n3_ := Aside0.mk (keep_drew HK.out)
      have n4_ := Aside0.mk (bD_ HB.out)
      clear BK291
      clear BK301
      clear HI0
      clear HK
      clear HB
      have BK291 := n0_
      have BK301 := n1_
      have HI0 := n2_
      have HK := n3_
      have HB := n4_
      clear n0_ n1_ n2_ n3_ n4_
      refine start_ (n := 7) (S := fun w' => w'.cell? ⟨gb301, 0, none⟩ = some (.int .i64 (wrap64 (1 + t292))) ∧ w'.cell? ⟨gb301, 1, none⟩ = some (.int .i64 0) ∧ w'.cell? ⟨gb301, 2, none⟩ = some (.int .i64 0) ∧ w'.cell? ⟨gb301, 3, none⟩ = some (.int .i64 t295) ∧ w'.cell? ⟨gb301, 4, none⟩ = some (.int .i64 t298) ∧ w'.cell? ⟨gb301, 5, none⟩ = some (.int .i64 0)) (ds := [6]) #[false, false, false, false, false, false, false] z127_19 rfl rfl ⟨(bC_ BK301.out 0).trans rfl, (bC_ BK301.out 1).trans rfl, (bC_ BK301.out 2).trans rfl, (bC_ BK301.out 3).trans rfl, (bC_ BK301.out 4).trans rfl, (bC_ BK301.out 5).trans rfl⟩ (fun hHeld => ?_)
      generalize w39.drew = w40 at BK291 BK301 HI0 HK HB hHeld ⊢
      refine pure_ (i := 0) (N := some 12) (v := ?_) (a' := ?_) #[true, false, false, false, false, false, false] rfl rfl z127_19 (fun _ _ _ h => h) (Or.inl ⟨by rfl, ?_⟩) ?_ ?_
      rotate_left
      · intro w'
        go_simp
        with_reducible rfl
      rotate_left
      · simp only [Act.put, List.setIfInBounds_toArray, List.set_cons_zero, List.set_cons_succ, i64_w, i32_w]
        rfl
      refine pure_ (i := 2) (N := some 14) (v := ?_) (a' := ?_) #[true, false, true, false, false, false, false] rfl rfl z127_19 (fun _ _ _ h => h) (Or.inl ⟨by rfl, ?_⟩) ?_ ?_
      rotate_left
      · intro w'
        go_simp
        with_reducible rfl
      rotate_left
      · simp only [Act.put, List.setIfInBounds_toArray, List.set_cons_zero, List.set_cons_succ, i64_w, i32_w]
        rfl
      refine take_ (i := 1) (N := some 13) (v := ?_) (a' := ?_) #[true, true, true, false, false, false, false] rfl rfl z127_19 (fun _ _ _ h => h) (Or.inl ⟨by rfl, ?_⟩) hHeld ?_ ?_
      rotate_left
      · rintro w' ⟨s0, s1, s2, s3, s4, s5⟩
        go_simp
        with_reducible rfl
      rotate_left
      · simp only [Act.put, List.setIfInBounds_toArray, List.set_cons_zero, List.set_cons_succ, i64_w, i32_w]
        rfl
      refine one_ (i := 3) (N := some 15) #[true, true, true, true, false, false, false] rfl rfl z127_19 (by decide) (fun K hK => ?_)
      refine goes_ Try.func105 z127_19 rfl #[.pointer (some ⟨g, 0, none⟩), .int .i64 30] (by rfl) rfl rfl z127_1 ?_
      with_reducible refine (spec_l1Below.calls g s0_0 t299 t300 30 t302 t303 t304 w0 _ ?side1 ?side2 A5.out).mono ?_
      (case side1 => repeat (first | (with_reducible first | exact HI0.out | apply IsS119.alloc | apply IsS119.drewN | apply IsS119.drew | apply IsS119.set_1 | apply IsS119.set_2 | refine IsS119.far ?_ NB0_291.out _ | refine IsS119.far ?_ NB0_301.out _) | exact HI0.out))
      (case side2 => repeat (first | (with_reducible first | exact HB.out | apply bA_ | apply bN_ | apply bD_ | refine bS_ ?_ (IsS119.ge HI0.out) | refine bS_ ?_ GE291.out | refine bS_ ?_ GE301.out) | exact HB.out))
      rintro e w41 ⟨rfl, hi, hb, hk⟩
      refine ⟨_, rfl, ?_⟩
      have n0_ := Aside0.mk (KeepBut.blk hk (g' := gb291) (o := .cells #[.int .i64 0, .int .i64 0, .int .i64 0, .int .i64 0, .int .i64 0, .int .i64 0] 75 (0, 0)) (pB127_ BK291.out) NB291_0.out (by simp))
      have n1_ := Aside0.mk (KeepBut.blk hk (g' := gb301) (o := .cells #[.int .i64 (wrap64 (1 + t292)), .int .i64 0, .int .i64 0, .int .i64 t295, .int .i64 t298, .int .i64 0] 75 (0, 0)) (pB127_ BK301.out) NB301_0.out (by simp))
      have n2_ := Aside0.mk (KeepBut.trans z127_2 hk (.inl rfl))
      have n3_ := Aside0.mk (hb)
      have n4_ := Aside0.mk (hi)
      clear BK291
      clear BK301
      clear HK
      clear HB
      clear HI0
      have BK291 := n0_
      have BK301 := n1_
      have HK := n2_
      have HB := n3_
      have HI0 := n4_
      clear n0_ n1_ n2_ n3_ n4_
      (try clear hb)
      (try clear hb2)
      (try clear hk)
      (try clear hi)
      refine hK.out _ _ ⟨(bC_ BK301.out 0).trans rfl, (bC_ BK301.out 1).trans rfl, (bC_ BK301.out 2).trans rfl, (bC_ BK301.out 3).trans rfl, (bC_ BK301.out 4).trans rfl, (bC_ BK301.out 5).trans rfl⟩ (fun hHeld => ?_)
      clear hK K
      refine norm_ (a' := ?_) ?_ ?_
      rotate_left
      · show Act.put _ (some 15) _ = _
        simp only [Act.put, List.setIfInBounds_toArray, List.set_cons_zero, List.set_cons_succ, i64_w, i32_w]
        rfl
      refine pure_ (i := 4) (N := some 16) (v := ?_) (a' := ?_) #[true, true, true, true, true, false, false] rfl rfl z127_19 (fun _ _ _ h => h) (Or.inl ⟨by rfl, ?_⟩) ?_ ?_
      rotate_left
      · intro w'
        go_simp
        with_reducible rfl
      rotate_left
      · simp only [Act.put, List.setIfInBounds_toArray, List.set_cons_zero, List.set_cons_succ, i64_w, i32_w]
        rfl
      refine pure_ (i := 5) (N := some 17) (v := ?_) (a' := ?_) #[true, true, true, true, true, true, false] rfl rfl z127_19 (fun _ _ _ h => h) (Or.inl ⟨by rfl, ?_⟩) ?_ ?_
      rotate_left
      · intro w'
        go_simp
        with_reducible rfl
      rotate_left
      · simp only [Act.put, List.setIfInBounds_toArray, List.set_cons_zero, List.set_cons_succ, i64_w, i32_w]
        rfl
      refine last_ (i := 6) (N := none) #[true, true, true, true, true, true, true] rfl rfl z127_19 (by decide) (fun K hK => ?_)
      have hs42 : w41.cell? ⟨gb301, 5, none⟩ = some (.int .i64 0) := (bC_ BK301.out 5).trans rfl
      have hfs42 := bF_ BK301.out 5
      have hns42_0 := NB291_301.out
      have hms42_0 := NB301_291.out
      refine skip_ (w1 := ?_) (by rfl) rfl ?_ ?_
      rotate_left
      · go_simp
        rfl
      refine hK.out _ _ ?_
      clear hK K
      refine done_ z127_19 ?_
      have hcz43_0 : w41.cell? ⟨gb301, 0, none⟩ = some (.int .i64 (wrap64 (1 + t292))) := (bC_ BK301.out 0).trans rfl
      have hcz43_1 : w41.cell? ⟨gb301, 1, none⟩ = some (.int .i64 0) := (bC_ BK301.out 1).trans rfl
      have hcz43_2 : w41.cell? ⟨gb301, 2, none⟩ = some (.int .i64 0) := (bC_ BK301.out 2).trans rfl
      have hcz43_3 : w41.cell? ⟨gb301, 3, none⟩ = some (.int .i64 t295) := (bC_ BK301.out 3).trans rfl
      have hcz43_4 : w41.cell? ⟨gb301, 4, none⟩ = some (.int .i64 t298) := (bC_ BK301.out 4).trans rfl
      have hcz43_5 : w41.cell? ⟨gb301, 5, none⟩ = some (.int .i64 0) := (bC_ BK301.out 5).trans rfl
      have hfz43_0 := bF_ BK301.out 0
      have hfz43_1 := bF_ BK301.out 1
      have hfz43_2 := bF_ BK301.out 2
      have hfz43_3 := bF_ BK301.out 3
      have hfz43_4 := bF_ BK301.out 4
      have hfz43_5 := bF_ BK301.out 5
      try go_wp2_with (first | ((with_reducible refine gate_callee (f := 109) rfl ?_); refine goesL_ (some 37) rfl rfl Try.func109 z127_19 rfl #[.pointer (some ⟨g, 0, none⟩), .int .i64 1] rfl z127_1 ?_; (with_reducible refine (spec_l5Name.calls g s0_0 t303 t304 1 t311 t312 t313 w0 _ ?side1 ?side2 A29.out).mono ?_); (case side1 => repeat (first | (with_reducible first | exact HI0.out | apply IsS119.alloc | apply IsS119.drewN | apply IsS119.drew | apply IsS119.set_1 | apply IsS119.set_2 | refine IsS119.far ?_ NB0_291.out _ | refine IsS119.far ?_ NB0_301.out _) | exact HI0.out)); (case side2 => repeat (first | (with_reducible first | exact HB.out | apply bA_ | apply bN_ | apply bD_ | refine bS_ ?_ (IsS119.ge HI0.out) | refine bS_ ?_ GE291.out | refine bS_ ?_ GE301.out) | exact HB.out)); rintro e w44 ⟨rfl, hi, hb, hk⟩; refine ⟨_, rfl, ?_⟩; have n0_ := Aside0.mk (KeepBut.blk hk (g' := gb291) (o := .cells #[.int .i64 0, .int .i64 0, .int .i64 0, .int .i64 0, .int .i64 0, .int .i64 0] 75 (0, 0)) z127_3 NB291_0.out (by simp)); have n1_ := Aside0.mk (KeepBut.blk hk (g' := gb301) (o := .cells #[.int .i64 (wrap64 (1 + t292)), .int .i64 0, .int .i64 0, .int .i64 t295, .int .i64 t298, .int .i64 (wrap64 (t298 + t302))] 75 (0, 0)) z127_6 NB301_0.out (by simp)); have n2_ := Aside0.mk (KeepBut.trans z127_2 hk (.inl rfl)); have n3_ := Aside0.mk (hb); have n4_ := Aside0.mk (hi); clear BK291; clear BK301; clear HK; clear HB; clear HI0; have BK291 := n0_; have BK301 := n1_; have HK := n2_; have HB := n3_; have HI0 := n4_; clear n0_ n1_ n2_ n3_ n4_; (try clear hb); (try clear hb2); (try clear hk); (try clear hi); have hcz45_0 : w44.cell? ⟨gb301, 0, none⟩ = some (.int .i64 (wrap64 (1 + t292))) := (bC_ BK301.out 0).trans rfl; have hcz45_1 : w44.cell? ⟨gb301, 1, none⟩ = some (.int .i64 0) := (bC_ BK301.out 1).trans rfl; have hcz45_2 : w44.cell? ⟨gb301, 2, none⟩ = some (.int .i64 0) := (bC_ BK301.out 2).trans rfl; have hcz45_3 : w44.cell? ⟨gb301, 3, none⟩ = some (.int .i64 t295) := (bC_ BK301.out 3).trans rfl; have hcz45_4 : w44.cell? ⟨gb301, 4, none⟩ = some (.int .i64 t298) := (bC_ BK301.out 4).trans rfl; have hcz45_5 : w44.cell? ⟨gb301, 5, none⟩ = some (.int .i64 (wrap64 (t298 + t302))) := (bC_ BK301.out 5).trans rfl; have hfz45_0 := bF_ BK301.out 0; have hfz45_1 := bF_ BK301.out 1; have hfz45_2 := bF_ BK301.out 2; have hfz45_3 := bF_ BK301.out 3; have hfz45_4 := bF_ BK301.out 4; have hfz45_5 := bF_ BK301.out 5) | ((with_reducible refine gate_callee (f := 109) rfl ?_); refine goesL_ (some 40) rfl rfl Try.func109 z127_19 rfl #[.pointer (some ⟨g, 0, none⟩), .int .i64 2] rfl z127_1 ?_; (with_reducible refine (spec_l5Name.calls g s0_0 t312 t313 2 t314 t315 t316 w0 _ ?side1 ?side2 A30.out).mono ?_); (case side1 => repeat (first | (with_reducible first | exact HI0.out | apply IsS119.alloc | apply IsS119.drewN | apply IsS119.drew | apply IsS119.set_1 | apply IsS119.set_2 | refine IsS119.far ?_ NB0_291.out _ | refine IsS119.far ?_ NB0_301.out _) | exact HI0.out)); (case side2 => repeat (first | (with_reducible first | exact HB.out | apply bA_ | apply bN_ | apply bD_ | refine bS_ ?_ (IsS119.ge HI0.out) | refine bS_ ?_ GE291.out | refine bS_ ?_ GE301.out) | exact HB.out)); rintro e w46 ⟨rfl, hi, hb, hk⟩; refine ⟨_, rfl, ?_⟩; have n0_ := Aside0.mk (KeepBut.blk hk (g' := gb291) (o := .cells #[.int .i64 0, .int .i64 0, .int .i64 0, .int .i64 0, .int .i64 0, .int .i64 0] 75 (0, 0)) z127_3 NB291_0.out (by simp)); have n1_ := Aside0.mk (KeepBut.blk hk (g' := gb301) (o := .cells #[.int .i64 (wrap64 (1 + t292)), .int .i64 t311, .int .i64 0, .int .i64 t295, .int .i64 t298, .int .i64 (wrap64 (t298 + t302))] 75 (0, 0)) z127_5 NB301_0.out (by simp)); have n2_ := Aside0.mk (KeepBut.trans z127_2 hk (.inl rfl)); have n3_ := Aside0.mk (hb); have n4_ := Aside0.mk (hi); clear BK291; clear BK301; clear HK; clear HB; clear HI0; have BK291 := n0_; have BK301 := n1_; have HK := n2_; have HB := n3_; have HI0 := n4_; clear n0_ n1_ n2_ n3_ n4_; (try clear hb); (try clear hb2); (try clear hk); (try clear hi); have hcz47_0 : w46.cell? ⟨gb301, 0, none⟩ = some (.int .i64 (wrap64 (1 + t292))) := (bC_ BK301.out 0).trans rfl; have hcz47_1 : w46.cell? ⟨gb301, 1, none⟩ = some (.int .i64 t311) := (bC_ BK301.out 1).trans rfl; have hcz47_2 : w46.cell? ⟨gb301, 2, none⟩ = some (.int .i64 0) := (bC_ BK301.out 2).trans rfl; have hcz47_3 : w46.cell? ⟨gb301, 3, none⟩ = some (.int .i64 t295) := (bC_ BK301.out 3).trans rfl; have hcz47_4 : w46.cell? ⟨gb301, 4, none⟩ = some (.int .i64 t298) := (bC_ BK301.out 4).trans rfl; have hcz47_5 : w46.cell? ⟨gb301, 5, none⟩ = some (.int .i64 (wrap64 (t298 + t302))) := (bC_ BK301.out 5).trans rfl; have hfz47_0 := bF_ BK301.out 0; have hfz47_1 := bF_ BK301.out 1; have hfz47_2 := bF_ BK301.out 2; have hfz47_3 := bF_ BK301.out 3; have hfz47_4 := bF_ BK301.out 4; have hfz47_5 := bF_ BK301.out 5; have hnb48 := NB291_0.out; have hnc48 := NB0_291.out; have hcz49_0 : w46.cell? ⟨gb291, 0, none⟩ = some (.int .i64 0) := (bC_ BK291.out 0).trans rfl; have hcz49_1 : w46.cell? ⟨gb291, 1, none⟩ = some (.int .i64 0) := (bC_ BK291.out 1).trans rfl; have hcz49_2 : w46.cell? ⟨gb291, 2, none⟩ = some (.int .i64 0) := (bC_ BK291.out 2).trans rfl; have hcz49_3 : w46.cell? ⟨gb291, 3, none⟩ = some (.int .i64 0) := (bC_ BK291.out 3).trans rfl; have hcz49_4 : w46.cell? ⟨gb291, 4, none⟩ = some (.int .i64 0) := (bC_ BK291.out 4).trans rfl; have hcz49_5 : w46.cell? ⟨gb291, 5, none⟩ = some (.int .i64 0) := (bC_ BK291.out 5).trans rfl; have hfz49_0 := bF_ BK291.out 0; have hfz49_1 := bF_ BK291.out 1; have hfz49_2 := bF_ BK291.out 2; have hfz49_3 := bF_ BK291.out 3; have hfz49_4 := bF_ BK291.out 4; have hfz49_5 := bF_ BK291.out 5))
      refine bodyPost_ret (results_cell_row rfl _ _ gb291 75 #[.int .i64 (wrap64 (1 + t292)), .int .i64 t311, .int .i64 t314, .int .i64 t295, .int .i64 t298, .int .i64 (wrap64 (t298 + t302))] (0, 0) _ rfl (by (with_reducible repeat (first | refine blk_drewN ?_ _ | refine blk_drew ?_ | refine blk_alloc ?_ _)); refine blk_put (cs := #[.int .i64 (wrap64 (1 + t292)), .int .i64 t311, .int .i64 t314, .int .i64 t295, .int .i64 t298, .int .i64 0]) ?_ 5 _ rfl; (with_reducible repeat (first | refine blk_drewN ?_ _ | refine blk_drew ?_ | refine blk_alloc ?_ _)); refine blk_put (cs := #[.int .i64 (wrap64 (1 + t292)), .int .i64 t311, .int .i64 t314, .int .i64 t295, .int .i64 0, .int .i64 0]) ?_ 4 _ rfl; (with_reducible repeat (first | refine blk_drewN ?_ _ | refine blk_drew ?_ | refine blk_alloc ?_ _)); refine blk_put (cs := #[.int .i64 (wrap64 (1 + t292)), .int .i64 t311, .int .i64 t314, .int .i64 0, .int .i64 0, .int .i64 0]) ?_ 3 _ rfl; (with_reducible repeat (first | refine blk_drewN ?_ _ | refine blk_drew ?_ | refine blk_alloc ?_ _)); refine blk_put (cs := #[.int .i64 (wrap64 (1 + t292)), .int .i64 t311, .int .i64 0, .int .i64 0, .int .i64 0, .int .i64 0]) ?_ 2 _ rfl; (with_reducible repeat (first | refine blk_drewN ?_ _ | refine blk_drew ?_ | refine blk_alloc ?_ _)); refine blk_put (cs := #[.int .i64 (wrap64 (1 + t292)), .int .i64 0, .int .i64 0, .int .i64 0, .int .i64 0, .int .i64 0]) ?_ 1 _ rfl; (with_reducible repeat (first | refine blk_drewN ?_ _ | refine blk_drew ?_ | refine blk_alloc ?_ _)); refine blk_put (cs := #[.int .i64 0, .int .i64 0, .int .i64 0, .int .i64 0, .int .i64 0, .int .i64 0]) ?_ 0 _ rfl; (with_reducible repeat (first | refine blk_drewN ?_ _ | refine blk_drew ?_ | refine blk_alloc ?_ _)); refine blk_far ?_ NB291_301.out _; (with_reducible repeat (first | refine blk_drewN ?_ _ | refine blk_drew ?_ | refine blk_alloc ?_ _)); exact BK291.out) Try.underlying75 rfl z127_19) rfl ?_
      exact ⟨by first | rfl | (simp [errW_none, errW_some] <;> rfl) | (simp [*, errW_none, errW_some] <;> rfl), by repeat (first | (with_reducible first | exact HI0.out | apply IsS119.alloc | apply IsS119.drewN | apply IsS119.drew | apply IsS119.set_1 | apply IsS119.set_2 | refine IsS119.far ?_ NB0_291.out _ | refine IsS119.far ?_ NB0_301.out _) | exact HI0.out), by repeat (first | (with_reducible first | exact HB.out | apply bA_ | apply bN_ | apply bD_ | refine bS_ ?_ (IsS119.ge HI0.out) | refine bS_ ?_ GE291.out | refine bS_ ?_ GE301.out) | exact HB.out), by repeat (first | (with_reducible first | exact HK.out | apply KeepBut.set_ | apply keep_drewN | apply keep_drew | apply keep_alloc | refine keep_far ?_ GW291.out _ | refine keep_far ?_ GW301.out _) | exact HK.out)⟩
    · rw [if_neg c28] at H
      have c28b0 : ((wrap64 (1 + t292)) == 2) = false := beq_eq_false_iff_ne.mpr c28
      have c28b1 : ((wrap64 (1 + t292)) != 2) = true := bne_iff_ne.mpr c28
      by_cases c50 : (wrap64 (1 + t292)) = 3
      · rw [if_pos c50] at H
        have c50b0 : ((wrap64 (1 + t292)) == 3) = true := beq_iff_eq.mpr c50
        have c50b1 : ((wrap64 (1 + t292)) != 3) = false := bne_eq_false_iff_eq.mpr c50
        clear c50
        replace H := Option.bind_eq_some_iff.mp H
        obtain ⟨⟨t317, t318, t319⟩, A510, H⟩ := H
        replace H : ((spec_l1Below.f s0_0 t318 t319 4).bind fun bt320 => (some (wrap64 (1 + t292), t317, bt320.1, t295, t298, wrap64 (t298 + t302), bt320.2.1, bt320.2.2))) = some (r1, r2, r3, r4, r5, r6, r7, r8) := H
        have A51 := Aside0.mk A510
        clear A510
        replace H := Option.bind_eq_some_iff.mp H
        obtain ⟨⟨t320, t321, t322⟩, A520, H⟩ := H
        replace H : (some (wrap64 (1 + t292), t317, t320, t295, t298, wrap64 (t298 + t302), t321, t322)) = some (r1, r2, r3, r4, r5, r6, r7, r8) := H
        have A52 := Aside0.mk A520
        clear A520
        simp only [Option.some.injEq, Prod.mk.injEq] at H
        obtain ⟨rfl, rfl, rfl, rfl, rfl, rfl, rfl, rfl⟩ := H
        go_enter Try.func127, Try.ntmps127
        try go_wp2_with (first | ((with_reducible refine gate_dst (N := 2) rfl ?_); refine box_event ?hg (N := 2) ?hd (cs := #[.int .i64 0, .int .i64 0, .int .i64 0, .int .i64 0, .int .i64 0, .int .i64 0]) (t := 75) ?hr ?_; (case hd => rfl); (case hg => rfl); (case hr => first | (go_simp; done) | (go_simp; rfl)); intro gb291 hg w53 hbox hb; have n0_ := Aside0.mk (IsS119.below z127_13 hb); have n1_ := Aside0.mk (KeepBut.trans z127_4 (KeepBut.of_below hb g none) (.inl rfl)); have n2_ := Aside0.mk (below_step z127_14 hb); have n3_ := Aside0.mk (hbox); have n4_ := Aside0.mk ((z127_17 : w.heap.size ≤ gb291)); have n5_ := Aside0.mk ((Nat.le_trans HW0.out (z127_17 : w.heap.size ≤ gb291) : w0.heap.size ≤ gb291)); have n6_ := Aside0.mk ((z127_9 : g ≠ gb291)); have n7_ := Aside0.mk ((z127_10 : gb291 ≠ g)); clear HI0; clear HK; clear HB; have HI0 := n0_; have HK := n1_; have HB := n2_; have BK291 := n3_; have GW291 := n4_; have GE291 := n5_; have NB0_291 := n6_; have NB291_0 := n7_; clear n0_ n1_ n2_ n3_ n4_ n5_ n6_ n7_; clear hb hbox hg) | ((with_reducible refine gate_callee (f := 105) rfl ?_); refine goesL_ (some 5) rfl rfl Try.func105 z127_19 rfl #[.pointer (some ⟨g, 0, none⟩), .int .i64 4] rfl z127_1 ?_; (with_reducible refine (spec_l1Below.calls g s0_0 s0_1 s0_2 4 t292 t293 t294 w0 _ ?side1 ?side2 A2.out).mono ?_); (case side1 => repeat (first | (with_reducible first | exact HI0.out | apply IsS119.alloc | apply IsS119.drewN | apply IsS119.drew | apply IsS119.set_1 | apply IsS119.set_2 | refine IsS119.far ?_ NB0_291.out _) | exact HI0.out)); (case side2 => repeat (first | (with_reducible first | exact HB.out | apply bA_ | apply bN_ | apply bD_ | refine bS_ ?_ (IsS119.ge HI0.out) | refine bS_ ?_ GE291.out) | exact HB.out)); rintro e w54 ⟨rfl, hi, hb, hk⟩; refine ⟨_, rfl, ?_⟩; have n0_ := Aside0.mk (KeepBut.blk hk (g' := gb291) (o := .cells #[.int .i64 0, .int .i64 0, .int .i64 0, .int .i64 0, .int .i64 0, .int .i64 0] 75 (0, 0)) (pB127_ BK291.out) NB291_0.out (by simp)); have n1_ := Aside0.mk (KeepBut.trans z127_0 hk (.inl rfl)); have n2_ := Aside0.mk (hb); have n3_ := Aside0.mk (hi); clear BK291; clear HK; clear HB; clear HI0; have BK291 := n0_; have HK := n1_; have HB := n2_; have HI0 := n3_; clear n0_ n1_ n2_ n3_; (try clear hb); (try clear hb2); (try clear hk); (try clear hi)) | ((with_reducible refine gate_callee (f := 105) rfl ?_); refine goesL_ (some 8) rfl rfl Try.func105 z127_19 rfl #[.pointer (some ⟨g, 0, none⟩), .int .i64 3] rfl z127_1 ?_; (with_reducible refine (spec_l1Below.calls g s0_0 t293 t294 3 t295 t296 t297 w0 _ ?side1 ?side2 A3.out).mono ?_); (case side1 => repeat (first | (with_reducible first | exact HI0.out | apply IsS119.alloc | apply IsS119.drewN | apply IsS119.drew | apply IsS119.set_1 | apply IsS119.set_2 | refine IsS119.far ?_ NB0_291.out _) | exact HI0.out)); (case side2 => repeat (first | (with_reducible first | exact HB.out | apply bA_ | apply bN_ | apply bD_ | refine bS_ ?_ (IsS119.ge HI0.out) | refine bS_ ?_ GE291.out) | exact HB.out)); rintro e w55 ⟨rfl, hi, hb, hk⟩; refine ⟨_, rfl, ?_⟩; have n0_ := Aside0.mk (KeepBut.blk hk (g' := gb291) (o := .cells #[.int .i64 0, .int .i64 0, .int .i64 0, .int .i64 0, .int .i64 0, .int .i64 0] 75 (0, 0)) (pB127_ BK291.out) NB291_0.out (by simp)); have n1_ := Aside0.mk (KeepBut.trans z127_0 hk (.inl rfl)); have n2_ := Aside0.mk (hb); have n3_ := Aside0.mk (hi); clear BK291; clear HK; clear HB; clear HI0; have BK291 := n0_; have HK := n1_; have HB := n2_; have HI0 := n3_; clear n0_ n1_ n2_ n3_; (try clear hb); (try clear hb2); (try clear hk); (try clear hi)) | ((with_reducible refine gate_callee (f := 105) rfl ?_); refine goesL_ (some 10) rfl rfl Try.func105 z127_19 rfl #[.pointer (some ⟨g, 0, none⟩), .int .i64 20] rfl z127_1 ?_; (with_reducible refine (spec_l1Below.calls g s0_0 t296 t297 20 t298 t299 t300 w0 _ ?side1 ?side2 A4.out).mono ?_); (case side1 => repeat (first | (with_reducible first | exact HI0.out | apply IsS119.alloc | apply IsS119.drewN | apply IsS119.drew | apply IsS119.set_1 | apply IsS119.set_2 | refine IsS119.far ?_ NB0_291.out _) | exact HI0.out)); (case side2 => repeat (first | (with_reducible first | exact HB.out | apply bA_ | apply bN_ | apply bD_ | refine bS_ ?_ (IsS119.ge HI0.out) | refine bS_ ?_ GE291.out) | exact HB.out)); rintro e w56 ⟨rfl, hi, hb, hk⟩; refine ⟨_, rfl, ?_⟩; have n0_ := Aside0.mk (KeepBut.blk hk (g' := gb291) (o := .cells #[.int .i64 0, .int .i64 0, .int .i64 0, .int .i64 0, .int .i64 0, .int .i64 0] 75 (0, 0)) (pB127_ BK291.out) NB291_0.out (by simp)); have n1_ := Aside0.mk (KeepBut.trans z127_0 hk (.inl rfl)); have n2_ := Aside0.mk (hb); have n3_ := Aside0.mk (hi); clear BK291; clear HK; clear HB; clear HI0; have BK291 := n0_; have HK := n1_; have HB := n2_; have HI0 := n3_; clear n0_ n1_ n2_ n3_; (try clear hb); (try clear hb2); (try clear hk); (try clear hi)) | ((with_reducible refine gate_dst (N := 3) rfl ?_); refine box_event ?hg (N := 3) ?hd (cs := #[.int .i64 0, .int .i64 0, .int .i64 0, .int .i64 0, .int .i64 0, .int .i64 0]) (t := 75) ?hr ?_; (case hd => rfl); (case hg => rfl); (case hr => first | (go_simp; done) | (go_simp; rfl)); intro gb301 hg w57 hbox hb; have n0_ := Aside0.mk (IsS119.below z127_11 hb); have n1_ := Aside0.mk (blk_below (g := gb291) (o := .cells #[.int .i64 0, .int .i64 0, .int .i64 0, .int .i64 0, .int .i64 0, .int .i64 0] 75 (0, 0)) (pB127_ BK291.out) hb); have n2_ := Aside0.mk (KeepBut.trans z127_0 (KeepBut.of_below hb g none) (.inl rfl)); have n3_ := Aside0.mk (below_step z127_12 hb); have n4_ := Aside0.mk (hbox); have n5_ := Aside0.mk ((z127_18 : w.heap.size ≤ gb301)); have n6_ := Aside0.mk ((Nat.le_trans HW0.out (z127_18 : w.heap.size ≤ gb301) : w0.heap.size ≤ gb301)); have n7_ := Aside0.mk ((z127_15 : gb291 ≠ gb301)); have n8_ := Aside0.mk ((z127_16 : gb301 ≠ gb291)); have n9_ := Aside0.mk ((z127_7 : g ≠ gb301)); have n10_ := Aside0.mk ((z127_8 : gb301 ≠ g)); clear HI0; clear BK291; clear HK; clear HB; have HI0 := n0_; have BK291 := n1_; have HK := n2_; have HB := n3_; have BK301 := n4_; have GW301 := n5_; have GE301 := n6_; have NB291_301 := n7_; have NB301_291 := n8_; have NB0_301 := n9_; have NB301_0 := n10_; clear n0_ n1_ n2_ n3_ n4_ n5_ n6_ n7_ n8_ n9_ n10_; clear hb hbox hg; have hnb58 := NB301_291.out; have hnc58 := NB291_301.out; have hnb59 := NB301_0.out; have hnc59 := NB0_301.out; have hcz60_0 : w57.cell? ⟨gb301, 0, none⟩ = some (.int .i64 0) := (bC_ BK301.out 0).trans rfl; have hcz60_1 : w57.cell? ⟨gb301, 1, none⟩ = some (.int .i64 0) := (bC_ BK301.out 1).trans rfl; have hcz60_2 : w57.cell? ⟨gb301, 2, none⟩ = some (.int .i64 0) := (bC_ BK301.out 2).trans rfl; have hcz60_3 : w57.cell? ⟨gb301, 3, none⟩ = some (.int .i64 0) := (bC_ BK301.out 3).trans rfl; have hcz60_4 : w57.cell? ⟨gb301, 4, none⟩ = some (.int .i64 0) := (bC_ BK301.out 4).trans rfl; have hcz60_5 : w57.cell? ⟨gb301, 5, none⟩ = some (.int .i64 0) := (bC_ BK301.out 5).trans rfl; have hfz60_0 := bF_ BK301.out 0; have hfz60_1 := bF_ BK301.out 1; have hfz60_2 := bF_ BK301.out 2; have hfz60_3 := bF_ BK301.out 3; have hfz60_4 := bF_ BK301.out 4; have hfz60_5 := bF_ BK301.out 5))
        have n0_ : Aside0 (((((((w57.setCell ⟨gb301, 0, none⟩ (.int .i64 (wrap64 (1 + t292)))).setCell ⟨gb301, 1, none⟩ (.int .i64 0)).setCell ⟨gb301, 2, none⟩ (.int .i64 0)).setCell ⟨gb301, 3, none⟩ (.int .i64 t295)).setCell ⟨gb301, 4, none⟩ (.int .i64 t298)).setCell ⟨gb301, 5, none⟩ (.int .i64 0)).heap[gb291]? = some (.cells #[.int .i64 0, .int .i64 0, .int .i64 0, .int .i64 0, .int .i64 0, .int .i64 0] 75 (0, 0))) := ⟨by (with_reducible repeat (first | refine blk_drewN ?_ _ | refine blk_drew ?_ | refine blk_alloc ?_ _)); refine blk_far ?_ NB291_301.out _; (with_reducible repeat (first | refine blk_drewN ?_ _ | refine blk_drew ?_ | refine blk_alloc ?_ _)); refine blk_far ?_ NB291_301.out _; (with_reducible repeat (first | refine blk_drewN ?_ _ | refine blk_drew ?_ | refine blk_alloc ?_ _)); refine blk_far ?_ NB291_301.out _; (with_reducible repeat (first | refine blk_drewN ?_ _ | refine blk_drew ?_ | refine blk_alloc ?_ _)); refine blk_far ?_ NB291_301.out _; (with_reducible repeat (first | refine blk_drewN ?_ _ | refine blk_drew ?_ | refine blk_alloc ?_ _)); refine blk_far ?_ NB291_301.out _; (with_reducible repeat (first | refine blk_drewN ?_ _ | refine blk_drew ?_ | refine blk_alloc ?_ _)); refine blk_far ?_ NB291_301.out _; (with_reducible repeat (first | refine blk_drewN ?_ _ | refine blk_drew ?_ | refine blk_alloc ?_ _)); exact BK291.out⟩
        have n1_ : Aside0 (((((((w57.setCell ⟨gb301, 0, none⟩ (.int .i64 (wrap64 (1 + t292)))).setCell ⟨gb301, 1, none⟩ (.int .i64 0)).setCell ⟨gb301, 2, none⟩ (.int .i64 0)).setCell ⟨gb301, 3, none⟩ (.int .i64 t295)).setCell ⟨gb301, 4, none⟩ (.int .i64 t298)).setCell ⟨gb301, 5, none⟩ (.int .i64 0)).heap[gb301]? = some (.cells #[.int .i64 (wrap64 (1 + t292)), .int .i64 0, .int .i64 0, .int .i64 t295, .int .i64 t298, .int .i64 0] 75 (0, 0))) := ⟨by (with_reducible repeat (first | refine blk_drewN ?_ _ | refine blk_drew ?_ | refine blk_alloc ?_ _)); refine blk_put (cs := #[.int .i64 (wrap64 (1 + t292)), .int .i64 0, .int .i64 0, .int .i64 t295, .int .i64 t298, .int .i64 0]) ?_ 5 _ rfl; (with_reducible repeat (first | refine blk_drewN ?_ _ | refine blk_drew ?_ | refine blk_alloc ?_ _)); refine blk_put (cs := #[.int .i64 (wrap64 (1 + t292)), .int .i64 0, .int .i64 0, .int .i64 t295, .int .i64 0, .int .i64 0]) ?_ 4 _ rfl; (with_reducible repeat (first | refine blk_drewN ?_ _ | refine blk_drew ?_ | refine blk_alloc ?_ _)); refine blk_put (cs := #[.int .i64 (wrap64 (1 + t292)), .int .i64 0, .int .i64 0, .int .i64 0, .int .i64 0, .int .i64 0]) ?_ 3 _ rfl; (with_reducible repeat (first | refine blk_drewN ?_ _ | refine blk_drew ?_ | refine blk_alloc ?_ _)); refine blk_put (cs := #[.int .i64 (wrap64 (1 + t292)), .int .i64 0, .int .i64 0, .int .i64 0, .int .i64 0, .int .i64 0]) ?_ 2 _ rfl; (with_reducible repeat (first | refine blk_drewN ?_ _ | refine blk_drew ?_ | refine blk_alloc ?_ _)); refine blk_put (cs := #[.int .i64 (wrap64 (1 + t292)), .int .i64 0, .int .i64 0, .int .i64 0, .int .i64 0, .int .i64 0]) ?_ 1 _ rfl; (with_reducible repeat (first | refine blk_drewN ?_ _ | refine blk_drew ?_ | refine blk_alloc ?_ _)); refine blk_put (cs := #[.int .i64 0, .int .i64 0, .int .i64 0, .int .i64 0, .int .i64 0, .int .i64 0]) ?_ 0 _ rfl; (with_reducible repeat (first | refine blk_drewN ?_ _ | refine blk_drew ?_ | refine blk_alloc ?_ _)); exact BK301.out⟩
        have n2_ : Aside0 (IsS119 w0 ((((((w57.setCell ⟨gb301, 0, none⟩ (.int .i64 (wrap64 (1 + t292)))).setCell ⟨gb301, 1, none⟩ (.int .i64 0)).setCell ⟨gb301, 2, none⟩ (.int .i64 0)).setCell ⟨gb301, 3, none⟩ (.int .i64 t295)).setCell ⟨gb301, 4, none⟩ (.int .i64 t298)).setCell ⟨gb301, 5, none⟩ (.int .i64 0)) g s0_0 t299 t300) := ⟨by repeat (first | (with_reducible first | exact HI0.out | apply IsS119.alloc | apply IsS119.drewN | apply IsS119.drew | apply IsS119.set_1 | apply IsS119.set_2 | refine IsS119.far ?_ NB0_291.out _ | refine IsS119.far ?_ NB0_301.out _) | exact HI0.out)⟩
        have n3_ : Aside0 (KeepBut w ((((((w57.setCell ⟨gb301, 0, none⟩ (.int .i64 (wrap64 (1 + t292)))).setCell ⟨gb301, 1, none⟩ (.int .i64 0)).setCell ⟨gb301, 2, none⟩ (.int .i64 0)).setCell ⟨gb301, 3, none⟩ (.int .i64 t295)).setCell ⟨gb301, 4, none⟩ (.int .i64 t298)).setCell ⟨gb301, 5, none⟩ (.int .i64 0)) g none) := ⟨by repeat (first | (with_reducible first | exact HK.out | apply KeepBut.set_ | apply keep_drewN | apply keep_drew | apply keep_alloc | refine keep_far ?_ GW291.out _ | refine keep_far ?_ GW301.out _) | exact HK.out)⟩
        have n4_ : Aside0 (Below w0.heap.size w0 ((((((w57.setCell ⟨gb301, 0, none⟩ (.int .i64 (wrap64 (1 + t292)))).setCell ⟨gb301, 1, none⟩ (.int .i64 0)).setCell ⟨gb301, 2, none⟩ (.int .i64 0)).setCell ⟨gb301, 3, none⟩ (.int .i64 t295)).setCell ⟨gb301, 4, none⟩ (.int .i64 t298)).setCell ⟨gb301, 5, none⟩ (.int .i64 0))) := ⟨by repeat (first | (with_reducible first | exact HB.out | apply bA_ | apply bN_ | apply bD_ | refine bS_ ?_ (IsS119.ge HI0.out) | refine bS_ ?_ GE291.out | refine bS_ ?_ GE301.out) | exact HB.out)⟩
        (try clear BK291)
        (try clear BK301)
        (try clear HI0)
        (try clear HK)
        (try clear HB)
        generalize ((((((w57.setCell ⟨gb301, 0, none⟩ (.int .i64 (wrap64 (1 + t292)))).setCell ⟨gb301, 1, none⟩ (.int .i64 0)).setCell ⟨gb301, 2, none⟩ (.int .i64 0)).setCell ⟨gb301, 3, none⟩ (.int .i64 t295)).setCell ⟨gb301, 4, none⟩ (.int .i64 t298)).setCell ⟨gb301, 5, none⟩ (.int .i64 0)) = w61 at n0_ n1_ n2_ n3_ n4_ ⊢
        have BK291 := n0_
        have BK301 := n1_
        have HI0 := n2_
        have HK := n3_
        have HB := n4_
        clear n0_ n1_ n2_ n3_ n4_
        have n0_ := Aside0.mk (blk_drew BK291.out)
        have n1_ := Aside0.mk (blk_drew BK301.out)
        have n2_ := Aside0.mk (IsS119.drew HI0.out)
        have n3_ := Aside0.mk (keep_drew HK.out)
        have n4_ := Aside0.mk (bD_ HB.out)
        clear BK291
        clear BK301
        clear HI0
        clear HK
        clear HB
        have BK291 := n0_
        have BK301 := n1_
        have HI0 := n2_
        have HK := n3_
        have HB := n4_
        clear n0_ n1_ n2_ n3_ n4_
        refine start_ (n := 7) (S := fun w' => w'.cell? ⟨gb301, 0, none⟩ = some (.int .i64 (wrap64 (1 + t292))) ∧ w'.cell? ⟨gb301, 1, none⟩ = some (.int .i64 0) ∧ w'.cell? ⟨gb301, 2, none⟩ = some (.int .i64 0) ∧ w'.cell? ⟨gb301, 3, none⟩ = some (.int .i64 t295) ∧ w'.cell? ⟨gb301, 4, none⟩ = some (.int .i64 t298) ∧ w'.cell? ⟨gb301, 5, none⟩ = some (.int .i64 0)) (ds := [6]) #[false, false, false, false, false, false, false] z127_19 rfl rfl ⟨(bC_ BK301.out 0).trans rfl, (bC_ BK301.out 1).trans rfl, (bC_ BK301.out 2).trans rfl, (bC_ BK301.out 3).trans rfl, (bC_ BK301.out 4).trans rfl, (bC_ BK301.out 5).trans rfl⟩ (fun hHeld => ?_)
        generalize w61.drew = w62 at BK291 BK301 HI0 HK HB hHeld ⊢
        refine pure_ (i := 0) (N := some 12) (v := ?_) (a' := ?_) #[true, false, false, false, false, false, false] rfl rfl z127_19 (fun _ _ _ h => h) (Or.inl ⟨by rfl, ?_⟩) ?_ ?_
        rotate_left
        · intro w'
          go_simp
          with_reducible rfl
        rotate_left
        · simp only [Act.put, List.setIfInBounds_toArray, List.set_cons_zero, List.set_cons_succ, i64_w, i32_w]
          rfl
        refine pure_ (i := 2) (N := some 14) (v := ?_) (a' := ?_) #[true, false, true, false, false, false, false] rfl rfl z127_19 (fun _ _ _ h => h) (Or.inl ⟨by rfl, ?_⟩) ?_ ?_
        rotate_left
        · intro w'
          go_simp
          with_reducible rfl
        rotate_left
        · simp only [Act.put, List.setIfInBounds_toArray, List.set_cons_zero, List.set_cons_succ, i64_w, i32_w]
          rfl
        refine take_ (i := 1) (N := some 13) (v := ?_) (a' := ?_) #[true, true, true, false, false, false, false] rfl rfl z127_19 (fun _ _ _ h => h) (Or.inl ⟨by rfl, ?_⟩) hHeld ?_ ?_
        rotate_left
        · rintro w' ⟨s0, s1, s2, s3, s4, s5⟩
          go_simp
          with_reducible rfl
        rotate_left
        · simp only [Act.put, List.setIfInBounds_toArray, List.set_cons_zero, List.set_cons_succ, i64_w, i32_w]
          rfl
        refine one_ (i := 3) (N := some 15) #[true, true, true, true, false, false, false] rfl rfl z127_19 (by decide) (fun K hK => ?_)
        refine goes_ Try.func105 z127_19 rfl #[.pointer (some ⟨g, 0, none⟩), .int .i64 30] (by rfl) rfl rfl z127_1 ?_
        with_reducible refine (spec_l1Below.calls g s0_0 t299 t300 30 t302 t303 t304 w0 _ ?side1 ?side2 A5.out).mono ?_
        (case side1 => repeat (first | (with_reducible first | exact HI0.out | apply IsS119.alloc | apply IsS119.drewN | apply IsS119.drew | apply IsS119.set_1 | apply IsS119.set_2 | refine IsS119.far ?_ NB0_291.out _ | refine IsS119.far ?_ NB0_301.out _) | exact HI0.out))
        (case side2 => repeat (first | (with_reducible first | exact HB.out | apply bA_ | apply bN_ | apply bD_ | refine bS_ ?_ (IsS119.ge HI0.out) | refine bS_ ?_ GE291.out | refine bS_ ?_ GE301.out) | exact HB.out))
        rintro e w63 ⟨rfl, hi, hb, hk⟩
        refine ⟨_, rfl, ?_⟩
        have n0_ := Aside0.mk (KeepBut.blk hk (g' := gb291) (o := .cells #[.int .i64 0, .int .i64 0, .int .i64 0, .int .i64 0, .int .i64 0, .int .i64 0] 75 (0, 0)) (pB127_ BK291.out) NB291_0.out (by simp))
        have n1_ := Aside0.mk (KeepBut.blk hk (g' := gb301) (o := .cells #[.int .i64 (wrap64 (1 + t292)), .int .i64 0, .int .i64 0, .int .i64 t295, .int .i64 t298, .int .i64 0] 75 (0, 0)) (pB127_ BK301.out) NB301_0.out (by simp))
        have n2_ := Aside0.mk (KeepBut.trans z127_2 hk (.inl rfl))
        have n3_ := Aside0.mk (hb)
        have n4_ := Aside0.mk (hi)
        clear BK291
        clear BK301
        clear HK
        clear HB
        clear HI0
        have BK291 := n0_
        have BK301 := n1_
        have HK := n2_
        have HB := n3_
        have HI0 := n4_
        clear n0_ n1_ n2_ n3_ n4_
        (try clear hb)
        (try clear hb2)
        (try clear hk)
        (try clear hi)
        refine hK.out _ _ ⟨(bC_ BK301.out 0).trans rfl, (bC_ BK301.out 1).trans rfl, (bC_ BK301.out 2).trans rfl, (bC_ BK301.out 3).trans rfl, (bC_ BK301.out 4).trans rfl, (bC_ BK301.out 5).trans rfl⟩ (fun hHeld => ?_)
        clear hK K
        refine norm_ (a' := ?_) ?_ ?_
        rotate_left
        · show Act.put _ (some 15) _ = _
          simp only [Act.put, List.setIfInBounds_toArray, List.set_cons_zero, List.set_cons_succ, i64_w, i32_w]
          rfl
        refine pure_ (i := 4) (N := some 16) (v := ?_) (a' := ?_) #[true, true, true, true, true, false, false] rfl rfl z127_19 (fun _ _ _ h => h) (Or.inl ⟨by rfl, ?_⟩) ?_ ?_
        rotate_left
        · intro w'
          go_simp
          with_reducible rfl
        rotate_left
        · simp only [Act.put, List.setIfInBounds_toArray, List.set_cons_zero, List.set_cons_succ, i64_w, i32_w]
          rfl
        refine pure_ (i := 5) (N := some 17) (v := ?_) (a' := ?_) #[true, true, true, true, true, true, false] rfl rfl z127_19 (fun _ _ _ h => h) (Or.inl ⟨by rfl, ?_⟩) ?_ ?_
        rotate_left
        · intro w'
          go_simp
          with_reducible rfl
        rotate_left
        · simp only [Act.put, List.setIfInBounds_toArray, List.set_cons_zero, List.set_cons_succ, i64_w, i32_w]
          rfl
        refine last_ (i := 6) (N := none) #[true, true, true, true, true, true, true] rfl rfl z127_19 (by decide) (fun K hK => ?_)
        have hs64 : w63.cell? ⟨gb301, 5, none⟩ = some (.int .i64 0) := (bC_ BK301.out 5).trans rfl
        have hfs64 := bF_ BK301.out 5
        have hns64_0 := NB291_301.out
        have hms64_0 := NB301_291.out
        refine skip_ (w1 := ?_) (by rfl) rfl ?_ ?_
        rotate_left
        · go_simp
          rfl
        refine hK.out _ _ ?_
        clear hK K
        refine done_ z127_19 ?_
        have hcz65_0 : w63.cell? ⟨gb301, 0, none⟩ = some (.int .i64 (wrap64 (1 + t292))) := (bC_ BK301.out 0).trans rfl
        have hcz65_1 : w63.cell? ⟨gb301, 1, none⟩ = some (.int .i64 0) := (bC_ BK301.out 1).trans rfl
        have hcz65_2 : w63.cell? ⟨gb301, 2, none⟩ = some (.int .i64 0) := (bC_ BK301.out 2).trans rfl
        have hcz65_3 : w63.cell? ⟨gb301, 3, none⟩ = some (.int .i64 t295) := (bC_ BK301.out 3).trans rfl
        have hcz65_4 : w63.cell? ⟨gb301, 4, none⟩ = some (.int .i64 t298) := (bC_ BK301.out 4).trans rfl
        have hcz65_5 : w63.cell? ⟨gb301, 5, none⟩ = some (.int .i64 0) := (bC_ BK301.out 5).trans rfl
        have hfz65_0 := bF_ BK301.out 0
        have hfz65_1 := bF_ BK301.out 1
        have hfz65_2 := bF_ BK301.out 2
        have hfz65_3 := bF_ BK301.out 3
        have hfz65_4 := bF_ BK301.out 4
        have hfz65_5 := bF_ BK301.out 5
        try go_wp2_with (first | ((with_reducible refine gate_callee (f := 109) rfl ?_); refine goesL_ (some 45) rfl rfl Try.func109 z127_19 rfl #[.pointer (some ⟨g, 0, none⟩), .int .i64 2] rfl z127_1 ?_; (with_reducible refine (spec_l5Name.calls g s0_0 t303 t304 2 t317 t318 t319 w0 _ ?side1 ?side2 A51.out).mono ?_); (case side1 => repeat (first | (with_reducible first | exact HI0.out | apply IsS119.alloc | apply IsS119.drewN | apply IsS119.drew | apply IsS119.set_1 | apply IsS119.set_2 | refine IsS119.far ?_ NB0_291.out _ | refine IsS119.far ?_ NB0_301.out _) | exact HI0.out)); (case side2 => repeat (first | (with_reducible first | exact HB.out | apply bA_ | apply bN_ | apply bD_ | refine bS_ ?_ (IsS119.ge HI0.out) | refine bS_ ?_ GE291.out | refine bS_ ?_ GE301.out) | exact HB.out)); rintro e w66 ⟨rfl, hi, hb, hk⟩; refine ⟨_, rfl, ?_⟩; have n0_ := Aside0.mk (KeepBut.blk hk (g' := gb291) (o := .cells #[.int .i64 0, .int .i64 0, .int .i64 0, .int .i64 0, .int .i64 0, .int .i64 0] 75 (0, 0)) z127_3 NB291_0.out (by simp)); have n1_ := Aside0.mk (KeepBut.blk hk (g' := gb301) (o := .cells #[.int .i64 (wrap64 (1 + t292)), .int .i64 0, .int .i64 0, .int .i64 t295, .int .i64 t298, .int .i64 (wrap64 (t298 + t302))] 75 (0, 0)) z127_6 NB301_0.out (by simp)); have n2_ := Aside0.mk (KeepBut.trans z127_2 hk (.inl rfl)); have n3_ := Aside0.mk (hb); have n4_ := Aside0.mk (hi); clear BK291; clear BK301; clear HK; clear HB; clear HI0; have BK291 := n0_; have BK301 := n1_; have HK := n2_; have HB := n3_; have HI0 := n4_; clear n0_ n1_ n2_ n3_ n4_; (try clear hb); (try clear hb2); (try clear hk); (try clear hi); have hcz67_0 : w66.cell? ⟨gb301, 0, none⟩ = some (.int .i64 (wrap64 (1 + t292))) := (bC_ BK301.out 0).trans rfl; have hcz67_1 : w66.cell? ⟨gb301, 1, none⟩ = some (.int .i64 0) := (bC_ BK301.out 1).trans rfl; have hcz67_2 : w66.cell? ⟨gb301, 2, none⟩ = some (.int .i64 0) := (bC_ BK301.out 2).trans rfl; have hcz67_3 : w66.cell? ⟨gb301, 3, none⟩ = some (.int .i64 t295) := (bC_ BK301.out 3).trans rfl; have hcz67_4 : w66.cell? ⟨gb301, 4, none⟩ = some (.int .i64 t298) := (bC_ BK301.out 4).trans rfl; have hcz67_5 : w66.cell? ⟨gb301, 5, none⟩ = some (.int .i64 (wrap64 (t298 + t302))) := (bC_ BK301.out 5).trans rfl; have hfz67_0 := bF_ BK301.out 0; have hfz67_1 := bF_ BK301.out 1; have hfz67_2 := bF_ BK301.out 2; have hfz67_3 := bF_ BK301.out 3; have hfz67_4 := bF_ BK301.out 4; have hfz67_5 := bF_ BK301.out 5) | ((with_reducible refine gate_callee (f := 105) rfl ?_); refine goesL_ (some 48) rfl rfl Try.func105 z127_19 rfl #[.pointer (some ⟨g, 0, none⟩), .int .i64 4] rfl z127_1 ?_; (with_reducible refine (spec_l1Below.calls g s0_0 t318 t319 4 t320 t321 t322 w0 _ ?side1 ?side2 A52.out).mono ?_); (case side1 => repeat (first | (with_reducible first | exact HI0.out | apply IsS119.alloc | apply IsS119.drewN | apply IsS119.drew | apply IsS119.set_1 | apply IsS119.set_2 | refine IsS119.far ?_ NB0_291.out _ | refine IsS119.far ?_ NB0_301.out _) | exact HI0.out)); (case side2 => repeat (first | (with_reducible first | exact HB.out | apply bA_ | apply bN_ | apply bD_ | refine bS_ ?_ (IsS119.ge HI0.out) | refine bS_ ?_ GE291.out | refine bS_ ?_ GE301.out) | exact HB.out)); rintro e w68 ⟨rfl, hi, hb, hk⟩; refine ⟨_, rfl, ?_⟩; have n0_ := Aside0.mk (KeepBut.blk hk (g' := gb291) (o := .cells #[.int .i64 0, .int .i64 0, .int .i64 0, .int .i64 0, .int .i64 0, .int .i64 0] 75 (0, 0)) z127_3 NB291_0.out (by simp)); have n1_ := Aside0.mk (KeepBut.blk hk (g' := gb301) (o := .cells #[.int .i64 (wrap64 (1 + t292)), .int .i64 t317, .int .i64 0, .int .i64 t295, .int .i64 t298, .int .i64 (wrap64 (t298 + t302))] 75 (0, 0)) z127_5 NB301_0.out (by simp)); have n2_ := Aside0.mk (KeepBut.trans z127_2 hk (.inl rfl)); have n3_ := Aside0.mk (hb); have n4_ := Aside0.mk (hi); clear BK291; clear BK301; clear HK; clear HB; clear HI0; have BK291 := n0_; have BK301 := n1_; have HK := n2_; have HB := n3_; have HI0 := n4_; clear n0_ n1_ n2_ n3_ n4_; (try clear hb); (try clear hb2); (try clear hk); (try clear hi); have hcz69_0 : w68.cell? ⟨gb301, 0, none⟩ = some (.int .i64 (wrap64 (1 + t292))) := (bC_ BK301.out 0).trans rfl; have hcz69_1 : w68.cell? ⟨gb301, 1, none⟩ = some (.int .i64 t317) := (bC_ BK301.out 1).trans rfl; have hcz69_2 : w68.cell? ⟨gb301, 2, none⟩ = some (.int .i64 0) := (bC_ BK301.out 2).trans rfl; have hcz69_3 : w68.cell? ⟨gb301, 3, none⟩ = some (.int .i64 t295) := (bC_ BK301.out 3).trans rfl; have hcz69_4 : w68.cell? ⟨gb301, 4, none⟩ = some (.int .i64 t298) := (bC_ BK301.out 4).trans rfl; have hcz69_5 : w68.cell? ⟨gb301, 5, none⟩ = some (.int .i64 (wrap64 (t298 + t302))) := (bC_ BK301.out 5).trans rfl; have hfz69_0 := bF_ BK301.out 0; have hfz69_1 := bF_ BK301.out 1; have hfz69_2 := bF_ BK301.out 2; have hfz69_3 := bF_ BK301.out 3; have hfz69_4 := bF_ BK301.out 4; have hfz69_5 := bF_ BK301.out 5; have hnb70 := NB291_0.out; have hnc70 := NB0_291.out; have hcz71_0 : w68.cell? ⟨gb291, 0, none⟩ = some (.int .i64 0) := (bC_ BK291.out 0).trans rfl; have hcz71_1 : w68.cell? ⟨gb291, 1, none⟩ = some (.int .i64 0) := (bC_ BK291.out 1).trans rfl; have hcz71_2 : w68.cell? ⟨gb291, 2, none⟩ = some (.int .i64 0) := (bC_ BK291.out 2).trans rfl; have hcz71_3 : w68.cell? ⟨gb291, 3, none⟩ = some (.int .i64 0) := (bC_ BK291.out 3).trans rfl; have hcz71_4 : w68.cell? ⟨gb291, 4, none⟩ = some (.int .i64 0) := (bC_ BK291.out 4).trans rfl; have hcz71_5 : w68.cell? ⟨gb291, 5, none⟩ = some (.int .i64 0) := (bC_ BK291.out 5).trans rfl; have hfz71_0 := bF_ BK291.out 0; have hfz71_1 := bF_ BK291.out 1; have hfz71_2 := bF_ BK291.out 2; have hfz71_3 := bF_ BK291.out 3; have hfz71_4 := bF_ BK291.out 4; have hfz71_5 := bF_ BK291.out 5))
        refine bodyPost_ret (results_cell_row rfl _ _ gb291 75 #[.int .i64 (wrap64 (1 + t292)), .int .i64 t317, .int .i64 t320, .int .i64 t295, .int .i64 t298, .int .i64 (wrap64 (t298 + t302))] (0, 0) _ rfl (by (with_reducible repeat (first | refine blk_drewN ?_ _ | refine blk_drew ?_ | refine blk_alloc ?_ _)); refine blk_put (cs := #[.int .i64 (wrap64 (1 + t292)), .int .i64 t317, .int .i64 t320, .int .i64 t295, .int .i64 t298, .int .i64 0]) ?_ 5 _ rfl; (with_reducible repeat (first | refine blk_drewN ?_ _ | refine blk_drew ?_ | refine blk_alloc ?_ _)); refine blk_put (cs := #[.int .i64 (wrap64 (1 + t292)), .int .i64 t317, .int .i64 t320, .int .i64 t295, .int .i64 0, .int .i64 0]) ?_ 4 _ rfl; (with_reducible repeat (first | refine blk_drewN ?_ _ | refine blk_drew ?_ | refine blk_alloc ?_ _)); refine blk_put (cs := #[.int .i64 (wrap64 (1 + t292)), .int .i64 t317, .int .i64 t320, .int .i64 0, .int .i64 0, .int .i64 0]) ?_ 3 _ rfl; (with_reducible repeat (first | refine blk_drewN ?_ _ | refine blk_drew ?_ | refine blk_alloc ?_ _)); refine blk_put (cs := #[.int .i64 (wrap64 (1 + t292)), .int .i64 t317, .int .i64 0, .int .i64 0, .int .i64 0, .int .i64 0]) ?_ 2 _ rfl; (with_reducible repeat (first | refine blk_drewN ?_ _ | refine blk_drew ?_ | refine blk_alloc ?_ _)); refine blk_put (cs := #[.int .i64 (wrap64 (1 + t292)), .int .i64 0, .int .i64 0, .int .i64 0, .int .i64 0, .int .i64 0]) ?_ 1 _ rfl; (with_reducible repeat (first | refine blk_drewN ?_ _ | refine blk_drew ?_ | refine blk_alloc ?_ _)); refine blk_put (cs := #[.int .i64 0, .int .i64 0, .int .i64 0, .int .i64 0, .int .i64 0, .int .i64 0]) ?_ 0 _ rfl; (with_reducible repeat (first | refine blk_drewN ?_ _ | refine blk_drew ?_ | refine blk_alloc ?_ _)); refine blk_far ?_ NB291_301.out _; (with_reducible repeat (first | refine blk_drewN ?_ _ | refine blk_drew ?_ | refine blk_alloc ?_ _)); exact BK291.out) Try.underlying75 rfl z127_19) rfl ?_
        exact ⟨by first | rfl | (simp [errW_none, errW_some] <;> rfl) | (simp [*, errW_none, errW_some] <;> rfl), by repeat (first | (with_reducible first | exact HI0.out | apply IsS119.alloc | apply IsS119.drewN | apply IsS119.drew | apply IsS119.set_1 | apply IsS119.set_2 | refine IsS119.far ?_ NB0_291.out _ | refine IsS119.far ?_ NB0_301.out _) | exact HI0.out), by repeat (first | (with_reducible first | exact HB.out | apply bA_ | apply bN_ | apply bD_ | refine bS_ ?_ (IsS119.ge HI0.out) | refine bS_ ?_ GE291.out | refine bS_ ?_ GE301.out) | exact HB.out), by repeat (first | (with_reducible first | exact HK.out | apply KeepBut.set_ | apply keep_drewN | apply keep_drew | apply keep_alloc | refine keep_far ?_ GW291.out _ | refine keep_far ?_ GW301.out _) | exact HK.out)⟩
      · rw [if_neg c50] at H
        have c50b0 : ((wrap64 (1 + t292)) == 3) = false := beq_eq_false_iff_ne.mpr c50
        have c50b1 : ((wrap64 (1 + t292)) != 3) = true := bne_iff_ne.mpr c50
        replace H := Option.bind_eq_some_iff.mp H
        obtain ⟨⟨t323, t324, t325⟩, A720, H⟩ := H
        replace H : ((spec_l1Below.f s0_0 t324 t325 4).bind fun bt326 => (some (wrap64 (1 + t292), t323, bt326.1, t295, t298, wrap64 (t298 + t302), bt326.2.1, bt326.2.2))) = some (r1, r2, r3, r4, r5, r6, r7, r8) := H
        have A72 := Aside0.mk A720
        clear A720
        replace H := Option.bind_eq_some_iff.mp H
        obtain ⟨⟨t326, t327, t328⟩, A730, H⟩ := H
        replace H : (some (wrap64 (1 + t292), t323, t326, t295, t298, wrap64 (t298 + t302), t327, t328)) = some (r1, r2, r3, r4, r5, r6, r7, r8) := H
        have A73 := Aside0.mk A730
        clear A730
        simp only [Option.some.injEq, Prod.mk.injEq] at H
        obtain ⟨rfl, rfl, rfl, rfl, rfl, rfl, rfl, rfl⟩ := H
        go_enter Try.func127, Try.ntmps127
        try go_wp2_with (first | ((with_reducible refine gate_dst (N := 2) rfl ?_); refine box_event ?hg (N := 2) ?hd (cs := #[.int .i64 0, .int .i64 0, .int .i64 0, .int .i64 0, .int .i64 0, .int .i64 0]) (t := 75) ?hr ?_; (case hd => rfl); (case hg => rfl); (case hr => first | (go_simp; done) | (go_simp; rfl)); intro gb291 hg w74 hbox hb; have n0_ := Aside0.mk (IsS119.below z127_13 hb); have n1_ := Aside0.mk (KeepBut.trans z127_4 (KeepBut.of_below hb g none) (.inl rfl)); have n2_ := Aside0.mk (below_step z127_14 hb); have n3_ := Aside0.mk (hbox); have n4_ := Aside0.mk ((z127_17 : w.heap.size ≤ gb291)); have n5_ := Aside0.mk ((Nat.le_trans HW0.out (z127_17 : w.heap.size ≤ gb291) : w0.heap.size ≤ gb291)); have n6_ := Aside0.mk ((z127_9 : g ≠ gb291)); have n7_ := Aside0.mk ((z127_10 : gb291 ≠ g)); clear HI0; clear HK; clear HB; have HI0 := n0_; have HK := n1_; have HB := n2_; have BK291 := n3_; have GW291 := n4_; have GE291 := n5_; have NB0_291 := n6_; have NB291_0 := n7_; clear n0_ n1_ n2_ n3_ n4_ n5_ n6_ n7_; clear hb hbox hg) | ((with_reducible refine gate_callee (f := 105) rfl ?_); refine goesL_ (some 5) rfl rfl Try.func105 z127_19 rfl #[.pointer (some ⟨g, 0, none⟩), .int .i64 4] rfl z127_1 ?_; (with_reducible refine (spec_l1Below.calls g s0_0 s0_1 s0_2 4 t292 t293 t294 w0 _ ?side1 ?side2 A2.out).mono ?_); (case side1 => repeat (first | (with_reducible first | exact HI0.out | apply IsS119.alloc | apply IsS119.drewN | apply IsS119.drew | apply IsS119.set_1 | apply IsS119.set_2 | refine IsS119.far ?_ NB0_291.out _) | exact HI0.out)); (case side2 => repeat (first | (with_reducible first | exact HB.out | apply bA_ | apply bN_ | apply bD_ | refine bS_ ?_ (IsS119.ge HI0.out) | refine bS_ ?_ GE291.out) | exact HB.out)); rintro e w75 ⟨rfl, hi, hb, hk⟩; refine ⟨_, rfl, ?_⟩; have n0_ := Aside0.mk (KeepBut.blk hk (g' := gb291) (o := .cells #[.int .i64 0, .int .i64 0, .int .i64 0, .int .i64 0, .int .i64 0, .int .i64 0] 75 (0, 0)) (pB127_ BK291.out) NB291_0.out (by simp)); have n1_ := Aside0.mk (KeepBut.trans z127_0 hk (.inl rfl)); have n2_ := Aside0.mk (hb); have n3_ := Aside0.mk (hi); clear BK291; clear HK; clear HB; clear HI0; have BK291 := n0_; have HK := n1_; have HB := n2_; have HI0 := n3_; clear n0_ n1_ n2_ n3_; (try clear hb); (try clear hb2); (try clear hk); (try clear hi)) | ((with_reducible refine gate_callee (f := 105) rfl ?_); refine goesL_ (some 8) rfl rfl Try.func105 z127_19 rfl #[.pointer (some ⟨g, 0, none⟩), .int .i64 3] rfl z127_1 ?_; (with_reducible refine (spec_l1Below.calls g s0_0 t293 t294 3 t295 t296 t297 w0 _ ?side1 ?side2 A3.out).mono ?_); (case side1 => repeat (first | (with_reducible first | exact HI0.out | apply IsS119.alloc | apply IsS119.drewN | apply IsS119.drew | apply IsS119.set_1 | apply IsS119.set_2 | refine IsS119.far ?_ NB0_291.out _) | exact HI0.out)); (case side2 => repeat (first | (with_reducible first | exact HB.out | apply bA_ | apply bN_ | apply bD_ | refine bS_ ?_ (IsS119.ge HI0.out) | refine bS_ ?_ GE291.out) | exact HB.out)); rintro e w76 ⟨rfl, hi, hb, hk⟩; refine ⟨_, rfl, ?_⟩; have n0_ := Aside0.mk (KeepBut.blk hk (g' := gb291) (o := .cells #[.int .i64 0, .int .i64 0, .int .i64 0, .int .i64 0, .int .i64 0, .int .i64 0] 75 (0, 0)) (pB127_ BK291.out) NB291_0.out (by simp)); have n1_ := Aside0.mk (KeepBut.trans z127_0 hk (.inl rfl)); have n2_ := Aside0.mk (hb); have n3_ := Aside0.mk (hi); clear BK291; clear HK; clear HB; clear HI0; have BK291 := n0_; have HK := n1_; have HB := n2_; have HI0 := n3_; clear n0_ n1_ n2_ n3_; (try clear hb); (try clear hb2); (try clear hk); (try clear hi)) | ((with_reducible refine gate_callee (f := 105) rfl ?_); refine goesL_ (some 10) rfl rfl Try.func105 z127_19 rfl #[.pointer (some ⟨g, 0, none⟩), .int .i64 20] rfl z127_1 ?_; (with_reducible refine (spec_l1Below.calls g s0_0 t296 t297 20 t298 t299 t300 w0 _ ?side1 ?side2 A4.out).mono ?_); (case side1 => repeat (first | (with_reducible first | exact HI0.out | apply IsS119.alloc | apply IsS119.drewN | apply IsS119.drew | apply IsS119.set_1 | apply IsS119.set_2 | refine IsS119.far ?_ NB0_291.out _) | exact HI0.out)); (case side2 => repeat (first | (with_reducible first | exact HB.out | apply bA_ | apply bN_ | apply bD_ | refine bS_ ?_ (IsS119.ge HI0.out) | refine bS_ ?_ GE291.out) | exact HB.out)); rintro e w77 ⟨rfl, hi, hb, hk⟩; refine ⟨_, rfl, ?_⟩; have n0_ := Aside0.mk (KeepBut.blk hk (g' := gb291) (o := .cells #[.int .i64 0, .int .i64 0, .int .i64 0, .int .i64 0, .int .i64 0, .int .i64 0] 75 (0, 0)) (pB127_ BK291.out) NB291_0.out (by simp)); have n1_ := Aside0.mk (KeepBut.trans z127_0 hk (.inl rfl)); have n2_ := Aside0.mk (hb); have n3_ := Aside0.mk (hi); clear BK291; clear HK; clear HB; clear HI0; have BK291 := n0_; have HK := n1_; have HB := n2_; have HI0 := n3_; clear n0_ n1_ n2_ n3_; (try clear hb); (try clear hb2); (try clear hk); (try clear hi)) | ((with_reducible refine gate_dst (N := 3) rfl ?_); refine box_event ?hg (N := 3) ?hd (cs := #[.int .i64 0, .int .i64 0, .int .i64 0, .int .i64 0, .int .i64 0, .int .i64 0]) (t := 75) ?hr ?_; (case hd => rfl); (case hg => rfl); (case hr => first | (go_simp; done) | (go_simp; rfl)); intro gb301 hg w78 hbox hb; have n0_ := Aside0.mk (IsS119.below z127_11 hb); have n1_ := Aside0.mk (blk_below (g := gb291) (o := .cells #[.int .i64 0, .int .i64 0, .int .i64 0, .int .i64 0, .int .i64 0, .int .i64 0] 75 (0, 0)) (pB127_ BK291.out) hb); have n2_ := Aside0.mk (KeepBut.trans z127_0 (KeepBut.of_below hb g none) (.inl rfl)); have n3_ := Aside0.mk (below_step z127_12 hb); have n4_ := Aside0.mk (hbox); have n5_ := Aside0.mk ((z127_18 : w.heap.size ≤ gb301)); have n6_ := Aside0.mk ((Nat.le_trans HW0.out (z127_18 : w.heap.size ≤ gb301) : w0.heap.size ≤ gb301)); have n7_ := Aside0.mk ((z127_15 : gb291 ≠ gb301)); have n8_ := Aside0.mk ((z127_16 : gb301 ≠ gb291)); have n9_ := Aside0.mk ((z127_7 : g ≠ gb301)); have n10_ := Aside0.mk ((z127_8 : gb301 ≠ g)); clear HI0; clear BK291; clear HK; clear HB; have HI0 := n0_; have BK291 := n1_; have HK := n2_; have HB := n3_; have BK301 := n4_; have GW301 := n5_; have GE301 := n6_; have NB291_301 := n7_; have NB301_291 := n8_; have NB0_301 := n9_; have NB301_0 := n10_; clear n0_ n1_ n2_ n3_ n4_ n5_ n6_ n7_ n8_ n9_ n10_; clear hb hbox hg; have hnb79 := NB301_291.out; have hnc79 := NB291_301.out; have hnb80 := NB301_0.out; have hnc80 := NB0_301.out; have hcz81_0 : w78.cell? ⟨gb301, 0, none⟩ = some (.int .i64 0) := (bC_ BK301.out 0).trans rfl; have hcz81_1 : w78.cell? ⟨gb301, 1, none⟩ = some (.int .i64 0) := (bC_ BK301.out 1).trans rfl; have hcz81_2 : w78.cell? ⟨gb301, 2, none⟩ = some (.int .i64 0) := (bC_ BK301.out 2).trans rfl; have hcz81_3 : w78.cell? ⟨gb301, 3, none⟩ = some (.int .i64 0) := (bC_ BK301.out 3).trans rfl; have hcz81_4 : w78.cell? ⟨gb301, 4, none⟩ = some (.int .i64 0) := (bC_ BK301.out 4).trans rfl; have hcz81_5 : w78.cell? ⟨gb301, 5, none⟩ = some (.int .i64 0) := (bC_ BK301.out 5).trans rfl; have hfz81_0 := bF_ BK301.out 0; have hfz81_1 := bF_ BK301.out 1; have hfz81_2 := bF_ BK301.out 2; have hfz81_3 := bF_ BK301.out 3; have hfz81_4 := bF_ BK301.out 4; have hfz81_5 := bF_ BK301.out 5))
        have n0_ : Aside0 (((((((w78.setCell ⟨gb301, 0, none⟩ (.int .i64 (wrap64 (1 + t292)))).setCell ⟨gb301, 1, none⟩ (.int .i64 0)).setCell ⟨gb301, 2, none⟩ (.int .i64 0)).setCell ⟨gb301, 3, none⟩ (.int .i64 t295)).setCell ⟨gb301, 4, none⟩ (.int .i64 t298)).setCell ⟨gb301, 5, none⟩ (.int .i64 0)).heap[gb291]? = some (.cells #[.int .i64 0, .int .i64 0, .int .i64 0, .int .i64 0, .int .i64 0, .int .i64 0] 75 (0, 0))) := ⟨by (with_reducible repeat (first | refine blk_drewN ?_ _ | refine blk_drew ?_ | refine blk_alloc ?_ _)); refine blk_far ?_ NB291_301.out _; (with_reducible repeat (first | refine blk_drewN ?_ _ | refine blk_drew ?_ | refine blk_alloc ?_ _)); refine blk_far ?_ NB291_301.out _; (with_reducible repeat (first | refine blk_drewN ?_ _ | refine blk_drew ?_ | refine blk_alloc ?_ _)); refine blk_far ?_ NB291_301.out _; (with_reducible repeat (first | refine blk_drewN ?_ _ | refine blk_drew ?_ | refine blk_alloc ?_ _)); refine blk_far ?_ NB291_301.out _; (with_reducible repeat (first | refine blk_drewN ?_ _ | refine blk_drew ?_ | refine blk_alloc ?_ _)); refine blk_far ?_ NB291_301.out _; (with_reducible repeat (first | refine blk_drewN ?_ _ | refine blk_drew ?_ | refine blk_alloc ?_ _)); refine blk_far ?_ NB291_301.out _; (with_reducible repeat (first | refine blk_drewN ?_ _ | refine blk_drew ?_ | refine blk_alloc ?_ _)); exact BK291.out⟩
        have n1_ : Aside0 (((((((w78.setCell ⟨gb301, 0, none⟩ (.int .i64 (wrap64 (1 + t292)))).setCell ⟨gb301, 1, none⟩ (.int .i64 0)).setCell ⟨gb301, 2, none⟩ (.int .i64 0)).setCell ⟨gb301, 3, none⟩ (.int .i64 t295)).setCell ⟨gb301, 4, none⟩ (.int .i64 t298)).setCell ⟨gb301, 5, none⟩ (.int .i64 0)).heap[gb301]? = some (.cells #[.int .i64 (wrap64 (1 + t292)), .int .i64 0, .int .i64 0, .int .i64 t295, .int .i64 t298, .int .i64 0] 75 (0, 0))) := ⟨by (with_reducible repeat (first | refine blk_drewN ?_ _ | refine blk_drew ?_ | refine blk_alloc ?_ _)); refine blk_put (cs := #[.int .i64 (wrap64 (1 + t292)), .int .i64 0, .int .i64 0, .int .i64 t295, .int .i64 t298, .int .i64 0]) ?_ 5 _ rfl; (with_reducible repeat (first | refine blk_drewN ?_ _ | refine blk_drew ?_ | refine blk_alloc ?_ _)); refine blk_put (cs := #[.int .i64 (wrap64 (1 + t292)), .int .i64 0, .int .i64 0, .int .i64 t295, .int .i64 0, .int .i64 0]) ?_ 4 _ rfl; (with_reducible repeat (first | refine blk_drewN ?_ _ | refine blk_drew ?_ | refine blk_alloc ?_ _)); refine blk_put (cs := #[.int .i64 (wrap64 (1 + t292)), .int .i64 0, .int .i64 0, .int .i64 0, .int .i64 0, .int .i64 0]) ?_ 3 _ rfl; (with_reducible repeat (first | refine blk_drewN ?_ _ | refine blk_drew ?_ | refine blk_alloc ?_ _)); refine blk_put (cs := #[.int .i64 (wrap64 (1 + t292)), .int .i64 0, .int .i64 0, .int .i64 0, .int .i64 0, .int .i64 0]) ?_ 2 _ rfl; (with_reducible repeat (first | refine blk_drewN ?_ _ | refine blk_drew ?_ | refine blk_alloc ?_ _)); refine blk_put (cs := #[.int .i64 (wrap64 (1 + t292)), .int .i64 0, .int .i64 0, .int .i64 0, .int .i64 0, .int .i64 0]) ?_ 1 _ rfl; (with_reducible repeat (first | refine blk_drewN ?_ _ | refine blk_drew ?_ | refine blk_alloc ?_ _)); refine blk_put (cs := #[.int .i64 0, .int .i64 0, .int .i64 0, .int .i64 0, .int .i64 0, .int .i64 0]) ?_ 0 _ rfl; (with_reducible repeat (first | refine blk_drewN ?_ _ | refine blk_drew ?_ | refine blk_alloc ?_ _)); exact BK301.out⟩
        have n2_ : Aside0 (IsS119 w0 ((((((w78.setCell ⟨gb301, 0, none⟩ (.int .i64 (wrap64 (1 + t292)))).setCell ⟨gb301, 1, none⟩ (.int .i64 0)).setCell ⟨gb301, 2, none⟩ (.int .i64 0)).setCell ⟨gb301, 3, none⟩ (.int .i64 t295)).setCell ⟨gb301, 4, none⟩ (.int .i64 t298)).setCell ⟨gb301, 5, none⟩ (.int .i64 0)) g s0_0 t299 t300) := ⟨by repeat (first | (with_reducible first | exact HI0.out | apply IsS119.alloc | apply IsS119.drewN | apply IsS119.drew | apply IsS119.set_1 | apply IsS119.set_2 | refine IsS119.far ?_ NB0_291.out _ | refine IsS119.far ?_ NB0_301.out _) | exact HI0.out)⟩
        have n3_ : Aside0 (KeepBut w ((((((w78.setCell ⟨gb301, 0, none⟩ (.int .i64 (wrap64 (1 + t292)))).setCell ⟨gb301, 1, none⟩ (.int .i64 0)).setCell ⟨gb301, 2, none⟩ (.int .i64 0)).setCell ⟨gb301, 3, none⟩ (.int .i64 t295)).setCell ⟨gb301, 4, none⟩ (.int .i64 t298)).setCell ⟨gb301, 5, none⟩ (.int .i64 0)) g none) := ⟨by repeat (first | (with_reducible first | exact HK.out | apply KeepBut.set_ | apply keep_drewN | apply keep_drew | apply keep_alloc | refine keep_far ?_ GW291.out _ | refine keep_far ?_ GW301.out _) | exact HK.out)⟩
        have n4_ : Aside0 (Below w0.heap.size w0 ((((((w78.setCell ⟨gb301, 0, none⟩ (.int .i64 (wrap64 (1 + t292)))).setCell ⟨gb301, 1, none⟩ (.int .i64 0)).setCell ⟨gb301, 2, none⟩ (.int .i64 0)).setCell ⟨gb301, 3, none⟩ (.int .i64 t295)).setCell ⟨gb301, 4, none⟩ (.int .i64 t298)).setCell ⟨gb301, 5, none⟩ (.int .i64 0))) := ⟨by repeat (first | (with_reducible first | exact HB.out | apply bA_ | apply bN_ | apply bD_ | refine bS_ ?_ (IsS119.ge HI0.out) | refine bS_ ?_ GE291.out | refine bS_ ?_ GE301.out) | exact HB.out)⟩
        (try clear BK291)
        (try clear BK301)
        (try clear HI0)
        (try clear HK)
        (try clear HB)
        generalize ((((((w78.setCell ⟨gb301, 0, none⟩ (.int .i64 (wrap64 (1 + t292)))).setCell ⟨gb301, 1, none⟩ (.int .i64 0)).setCell ⟨gb301, 2, none⟩ (.int .i64 0)).setCell ⟨gb301, 3, none⟩ (.int .i64 t295)).setCell ⟨gb301, 4, none⟩ (.int .i64 t298)).setCell ⟨gb301, 5, none⟩ (.int .i64 0)) = w82 at n0_ n1_ n2_ n3_ n4_ ⊢
        have BK291 := n0_
        have BK301 := n1_
        have HI0 := n2_
        have HK := n3_
        have HB := n4_
        clear n0_ n1_ n2_ n3_ n4_
        have n0_ := Aside0.mk (blk_drew BK291.out)
        have n1_ := Aside0.mk (blk_drew BK301.out)
        have n2_ := Aside0.mk (IsS119.drew HI0.out)
        have n3_ := Aside0.mk (keep_drew HK.out)
        have n4_ := Aside0.mk (bD_ HB.out)
        clear BK291
        clear BK301
        clear HI0
        clear HK
        clear HB
        have BK291 := n0_
        have BK301 := n1_
        have HI0 := n2_
        have HK := n3_
        have HB := n4_
        clear n0_ n1_ n2_ n3_ n4_
        refine start_ (n := 7) (S := fun w' => w'.cell? ⟨gb301, 0, none⟩ = some (.int .i64 (wrap64 (1 + t292))) ∧ w'.cell? ⟨gb301, 1, none⟩ = some (.int .i64 0) ∧ w'.cell? ⟨gb301, 2, none⟩ = some (.int .i64 0) ∧ w'.cell? ⟨gb301, 3, none⟩ = some (.int .i64 t295) ∧ w'.cell? ⟨gb301, 4, none⟩ = some (.int .i64 t298) ∧ w'.cell? ⟨gb301, 5, none⟩ = some (.int .i64 0)) (ds := [6]) #[false, false, false, false, false, false, false] z127_19 rfl rfl ⟨(bC_ BK301.out 0).trans rfl, (bC_ BK301.out 1).trans rfl, (bC_ BK301.out 2).trans rfl, (bC_ BK301.out 3).trans rfl, (bC_ BK301.out 4).trans rfl, (bC_ BK301.out 5).trans rfl⟩ (fun hHeld => ?_)
        generalize w82.drew = w83 at BK291 BK301 HI0 HK HB hHeld ⊢
        refine pure_ (i := 0) (N := some 12) (v := ?_) (a' := ?_) #[true, false, false, false, false, false, false] rfl rfl z127_19 (fun _ _ _ h => h) (Or.inl ⟨by rfl, ?_⟩) ?_ ?_
        rotate_left
        · intro w'
          go_simp
          with_reducible rfl
        rotate_left
        · simp only [Act.put, List.setIfInBounds_toArray, List.set_cons_zero, List.set_cons_succ, i64_w, i32_w]
          rfl
        refine pure_ (i := 2) (N := some 14) (v := ?_) (a' := ?_) #[true, false, true, false, false, false, false] rfl rfl z127_19 (fun _ _ _ h => h) (Or.inl ⟨by rfl, ?_⟩) ?_ ?_
        rotate_left
        · intro w'
          go_simp
          with_reducible rfl
        rotate_left
        · simp only [Act.put, List.setIfInBounds_toArray, List.set_cons_zero, List.set_cons_succ, i64_w, i32_w]
          rfl
        refine take_ (i := 1) (N := some 13) (v := ?_) (a' := ?_) #[true, true, true, false, false, false, false] rfl rfl z127_19 (fun _ _ _ h => h) (Or.inl ⟨by rfl, ?_⟩) hHeld ?_ ?_
        rotate_left
        · rintro w' ⟨s0, s1, s2, s3, s4, s5⟩
          go_simp
          with_reducible rfl
        rotate_left
        · simp only [Act.put, List.setIfInBounds_toArray, List.set_cons_zero, List.set_cons_succ, i64_w, i32_w]
          rfl
        refine one_ (i := 3) (N := some 15) #[true, true, true, true, false, false, false] rfl rfl z127_19 (by decide) (fun K hK => ?_)
        refine goes_ Try.func105 z127_19 rfl #[.pointer (some ⟨g, 0, none⟩), .int .i64 30] (by rfl) rfl rfl z127_1 ?_
        with_reducible refine (spec_l1Below.calls g s0_0 t299 t300 30 t302 t303 t304 w0 _ ?side1 ?side2 A5.out).mono ?_
        (case side1 => repeat (first | (with_reducible first | exact HI0.out | apply IsS119.alloc | apply IsS119.drewN | apply IsS119.drew | apply IsS119.set_1 | apply IsS119.set_2 | refine IsS119.far ?_ NB0_291.out _ | refine IsS119.far ?_ NB0_301.out _) | exact HI0.out))
        (case side2 => repeat (first | (with_reducible first | exact HB.out | apply bA_ | apply bN_ | apply bD_ | refine bS_ ?_ (IsS119.ge HI0.out) | refine bS_ ?_ GE291.out | refine bS_ ?_ GE301.out) | exact HB.out))
        rintro e w84 ⟨rfl, hi, hb, hk⟩
        refine ⟨_, rfl, ?_⟩
        have n0_ := Aside0.mk (KeepBut.blk hk (g' := gb291) (o := .cells #[.int .i64 0, .int .i64 0, .int .i64 0, .int .i64 0, .int .i64 0, .int .i64 0] 75 (0, 0)) (pB127_ BK291.out) NB291_0.out (by simp))
        have n1_ := Aside0.mk (KeepBut.blk hk (g' := gb301) (o := .cells #[.int .i64 (wrap64 (1 + t292)), .int .i64 0, .int .i64 0, .int .i64 t295, .int .i64 t298, .int .i64 0] 75 (0, 0)) (pB127_ BK301.out) NB301_0.out (by simp))
        have n2_ := Aside0.mk (KeepBut.trans z127_2 hk (.inl rfl))
        have n3_ := Aside0.mk (hb)
        have n4_ := Aside0.mk (hi)
        clear BK291
        clear BK301
        clear HK
        clear HB
        clear HI0
        have BK291 := n0_
        have BK301 := n1_
        have HK := n2_
        have HB := n3_
        have HI0 := n4_
        clear n0_ n1_ n2_ n3_ n4_
        (try clear hb)
        (try clear hb2)
        (try clear hk)
        (try clear hi)
        refine hK.out _ _ ⟨(bC_ BK301.out 0).trans rfl, (bC_ BK301.out 1).trans rfl, (bC_ BK301.out 2).trans rfl, (bC_ BK301.out 3).trans rfl, (bC_ BK301.out 4).trans rfl, (bC_ BK301.out 5).trans rfl⟩ (fun hHeld => ?_)
        clear hK K
        refine norm_ (a' := ?_) ?_ ?_
        rotate_left
        · show Act.put _ (some 15) _ = _
          simp only [Act.put, List.setIfInBounds_toArray, List.set_cons_zero, List.set_cons_succ, i64_w, i32_w]
          rfl
        refine pure_ (i := 4) (N := some 16) (v := ?_) (a' := ?_) #[true, true, true, true, true, false, false] rfl rfl z127_19 (fun _ _ _ h => h) (Or.inl ⟨by rfl, ?_⟩) ?_ ?_
        rotate_left
        · intro w'
          go_simp
          with_reducible rfl
        rotate_left
        · simp only [Act.put, List.setIfInBounds_toArray, List.set_cons_zero, List.set_cons_succ, i64_w, i32_w]
          rfl
        refine pure_ (i := 5) (N := some 17) (v := ?_) (a' := ?_) #[true, true, true, true, true, true, false] rfl rfl z127_19 (fun _ _ _ h => h) (Or.inl ⟨by rfl, ?_⟩) ?_ ?_
        rotate_left
        · intro w'
          go_simp
          with_reducible rfl
        rotate_left
        · simp only [Act.put, List.setIfInBounds_toArray, List.set_cons_zero, List.set_cons_succ, i64_w, i32_w]
          rfl
        refine last_ (i := 6) (N := none) #[true, true, true, true, true, true, true] rfl rfl z127_19 (by decide) (fun K hK => ?_)
        have hs85 : w84.cell? ⟨gb301, 5, none⟩ = some (.int .i64 0) := (bC_ BK301.out 5).trans rfl
        have hfs85 := bF_ BK301.out 5
        have hns85_0 := NB291_301.out
        have hms85_0 := NB301_291.out
        refine skip_ (w1 := ?_) (by rfl) rfl ?_ ?_
        rotate_left
        · go_simp
          rfl
        refine hK.out _ _ ?_
        clear hK K
        refine done_ z127_19 ?_
        have hcz86_0 : w84.cell? ⟨gb301, 0, none⟩ = some (.int .i64 (wrap64 (1 + t292))) := (bC_ BK301.out 0).trans rfl
        have hcz86_1 : w84.cell? ⟨gb301, 1, none⟩ = some (.int .i64 0) := (bC_ BK301.out 1).trans rfl
        have hcz86_2 : w84.cell? ⟨gb301, 2, none⟩ = some (.int .i64 0) := (bC_ BK301.out 2).trans rfl
        have hcz86_3 : w84.cell? ⟨gb301, 3, none⟩ = some (.int .i64 t295) := (bC_ BK301.out 3).trans rfl
        have hcz86_4 : w84.cell? ⟨gb301, 4, none⟩ = some (.int .i64 t298) := (bC_ BK301.out 4).trans rfl
        have hcz86_5 : w84.cell? ⟨gb301, 5, none⟩ = some (.int .i64 0) := (bC_ BK301.out 5).trans rfl
        have hfz86_0 := bF_ BK301.out 0
        have hfz86_1 := bF_ BK301.out 1
        have hfz86_2 := bF_ BK301.out 2
        have hfz86_3 := bF_ BK301.out 3
        have hfz86_4 := bF_ BK301.out 4
        have hfz86_5 := bF_ BK301.out 5
        try go_wp2_with (first | ((with_reducible refine gate_callee (f := 109) rfl ?_); refine goesL_ (some 21) rfl rfl Try.func109 z127_19 rfl #[.pointer (some ⟨g, 0, none⟩), .int .i64 3] rfl z127_1 ?_; (with_reducible refine (spec_l5Name.calls g s0_0 t303 t304 3 t323 t324 t325 w0 _ ?side1 ?side2 A72.out).mono ?_); (case side1 => repeat (first | (with_reducible first | exact HI0.out | apply IsS119.alloc | apply IsS119.drewN | apply IsS119.drew | apply IsS119.set_1 | apply IsS119.set_2 | refine IsS119.far ?_ NB0_291.out _ | refine IsS119.far ?_ NB0_301.out _) | exact HI0.out)); (case side2 => repeat (first | (with_reducible first | exact HB.out | apply bA_ | apply bN_ | apply bD_ | refine bS_ ?_ (IsS119.ge HI0.out) | refine bS_ ?_ GE291.out | refine bS_ ?_ GE301.out) | exact HB.out)); rintro e w87 ⟨rfl, hi, hb, hk⟩; refine ⟨_, rfl, ?_⟩; have n0_ := Aside0.mk (KeepBut.blk hk (g' := gb291) (o := .cells #[.int .i64 0, .int .i64 0, .int .i64 0, .int .i64 0, .int .i64 0, .int .i64 0] 75 (0, 0)) z127_3 NB291_0.out (by simp)); have n1_ := Aside0.mk (KeepBut.blk hk (g' := gb301) (o := .cells #[.int .i64 (wrap64 (1 + t292)), .int .i64 0, .int .i64 0, .int .i64 t295, .int .i64 t298, .int .i64 (wrap64 (t298 + t302))] 75 (0, 0)) z127_6 NB301_0.out (by simp)); have n2_ := Aside0.mk (KeepBut.trans z127_2 hk (.inl rfl)); have n3_ := Aside0.mk (hb); have n4_ := Aside0.mk (hi); clear BK291; clear BK301; clear HK; clear HB; clear HI0; have BK291 := n0_; have BK301 := n1_; have HK := n2_; have HB := n3_; have HI0 := n4_; clear n0_ n1_ n2_ n3_ n4_; (try clear hb); (try clear hb2); (try clear hk); (try clear hi); have hcz88_0 : w87.cell? ⟨gb301, 0, none⟩ = some (.int .i64 (wrap64 (1 + t292))) := (bC_ BK301.out 0).trans rfl; have hcz88_1 : w87.cell? ⟨gb301, 1, none⟩ = some (.int .i64 0) := (bC_ BK301.out 1).trans rfl; have hcz88_2 : w87.cell? ⟨gb301, 2, none⟩ = some (.int .i64 0) := (bC_ BK301.out 2).trans rfl; have hcz88_3 : w87.cell? ⟨gb301, 3, none⟩ = some (.int .i64 t295) := (bC_ BK301.out 3).trans rfl; have hcz88_4 : w87.cell? ⟨gb301, 4, none⟩ = some (.int .i64 t298) := (bC_ BK301.out 4).trans rfl; have hcz88_5 : w87.cell? ⟨gb301, 5, none⟩ = some (.int .i64 (wrap64 (t298 + t302))) := (bC_ BK301.out 5).trans rfl; have hfz88_0 := bF_ BK301.out 0; have hfz88_1 := bF_ BK301.out 1; have hfz88_2 := bF_ BK301.out 2; have hfz88_3 := bF_ BK301.out 3; have hfz88_4 := bF_ BK301.out 4; have hfz88_5 := bF_ BK301.out 5) | ((with_reducible refine gate_callee (f := 105) rfl ?_); refine goesL_ (some 24) rfl rfl Try.func105 z127_19 rfl #[.pointer (some ⟨g, 0, none⟩), .int .i64 4] rfl z127_1 ?_; (with_reducible refine (spec_l1Below.calls g s0_0 t324 t325 4 t326 t327 t328 w0 _ ?side1 ?side2 A73.out).mono ?_); (case side1 => repeat (first | (with_reducible first | exact HI0.out | apply IsS119.alloc | apply IsS119.drewN | apply IsS119.drew | apply IsS119.set_1 | apply IsS119.set_2 | refine IsS119.far ?_ NB0_291.out _ | refine IsS119.far ?_ NB0_301.out _) | exact HI0.out)); (case side2 => repeat (first | (with_reducible first | exact HB.out | apply bA_ | apply bN_ | apply bD_ | refine bS_ ?_ (IsS119.ge HI0.out) | refine bS_ ?_ GE291.out | refine bS_ ?_ GE301.out) | exact HB.out)); rintro e w89 ⟨rfl, hi, hb, hk⟩; refine ⟨_, rfl, ?_⟩; have n0_ := Aside0.mk (KeepBut.blk hk (g' := gb291) (o := .cells #[.int .i64 0, .int .i64 0, .int .i64 0, .int .i64 0, .int .i64 0, .int .i64 0] 75 (0, 0)) z127_3 NB291_0.out (by simp)); have n1_ := Aside0.mk (KeepBut.blk hk (g' := gb301) (o := .cells #[.int .i64 (wrap64 (1 + t292)), .int .i64 t323, .int .i64 0, .int .i64 t295, .int .i64 t298, .int .i64 (wrap64 (t298 + t302))] 75 (0, 0)) z127_5 NB301_0.out (by simp)); have n2_ := Aside0.mk (KeepBut.trans z127_2 hk (.inl rfl)); have n3_ := Aside0.mk (hb); have n4_ := Aside0.mk (hi); clear BK291; clear BK301; clear HK; clear HB; clear HI0; have BK291 := n0_; have BK301 := n1_; have HK := n2_; have HB := n3_; have HI0 := n4_; clear n0_ n1_ n2_ n3_ n4_; (try clear hb); (try clear hb2); (try clear hk); (try clear hi); have hcz90_0 : w89.cell? ⟨gb301, 0, none⟩ = some (.int .i64 (wrap64 (1 + t292))) := (bC_ BK301.out 0).trans rfl; have hcz90_1 : w89.cell? ⟨gb301, 1, none⟩ = some (.int .i64 t323) := (bC_ BK301.out 1).trans rfl; have hcz90_2 : w89.cell? ⟨gb301, 2, none⟩ = some (.int .i64 0) := (bC_ BK301.out 2).trans rfl; have hcz90_3 : w89.cell? ⟨gb301, 3, none⟩ = some (.int .i64 t295) := (bC_ BK301.out 3).trans rfl; have hcz90_4 : w89.cell? ⟨gb301, 4, none⟩ = some (.int .i64 t298) := (bC_ BK301.out 4).trans rfl; have hcz90_5 : w89.cell? ⟨gb301, 5, none⟩ = some (.int .i64 (wrap64 (t298 + t302))) := (bC_ BK301.out 5).trans rfl; have hfz90_0 := bF_ BK301.out 0; have hfz90_1 := bF_ BK301.out 1; have hfz90_2 := bF_ BK301.out 2; have hfz90_3 := bF_ BK301.out 3; have hfz90_4 := bF_ BK301.out 4; have hfz90_5 := bF_ BK301.out 5; have hnb91 := NB291_0.out; have hnc91 := NB0_291.out; have hcz92_0 : w89.cell? ⟨gb291, 0, none⟩ = some (.int .i64 0) := (bC_ BK291.out 0).trans rfl; have hcz92_1 : w89.cell? ⟨gb291, 1, none⟩ = some (.int .i64 0) := (bC_ BK291.out 1).trans rfl; have hcz92_2 : w89.cell? ⟨gb291, 2, none⟩ = some (.int .i64 0) := (bC_ BK291.out 2).trans rfl; have hcz92_3 : w89.cell? ⟨gb291, 3, none⟩ = some (.int .i64 0) := (bC_ BK291.out 3).trans rfl; have hcz92_4 : w89.cell? ⟨gb291, 4, none⟩ = some (.int .i64 0) := (bC_ BK291.out 4).trans rfl; have hcz92_5 : w89.cell? ⟨gb291, 5, none⟩ = some (.int .i64 0) := (bC_ BK291.out 5).trans rfl; have hfz92_0 := bF_ BK291.out 0; have hfz92_1 := bF_ BK291.out 1; have hfz92_2 := bF_ BK291.out 2; have hfz92_3 := bF_ BK291.out 3; have hfz92_4 := bF_ BK291.out 4; have hfz92_5 := bF_ BK291.out 5))
        refine bodyPost_ret (results_cell_row rfl _ _ gb291 75 #[.int .i64 (wrap64 (1 + t292)), .int .i64 t323, .int .i64 t326, .int .i64 t295, .int .i64 t298, .int .i64 (wrap64 (t298 + t302))] (0, 0) _ rfl (by (with_reducible repeat (first | refine blk_drewN ?_ _ | refine blk_drew ?_ | refine blk_alloc ?_ _)); refine blk_put (cs := #[.int .i64 (wrap64 (1 + t292)), .int .i64 t323, .int .i64 t326, .int .i64 t295, .int .i64 t298, .int .i64 0]) ?_ 5 _ rfl; (with_reducible repeat (first | refine blk_drewN ?_ _ | refine blk_drew ?_ | refine blk_alloc ?_ _)); refine blk_put (cs := #[.int .i64 (wrap64 (1 + t292)), .int .i64 t323, .int .i64 t326, .int .i64 t295, .int .i64 0, .int .i64 0]) ?_ 4 _ rfl; (with_reducible repeat (first | refine blk_drewN ?_ _ | refine blk_drew ?_ | refine blk_alloc ?_ _)); refine blk_put (cs := #[.int .i64 (wrap64 (1 + t292)), .int .i64 t323, .int .i64 t326, .int .i64 0, .int .i64 0, .int .i64 0]) ?_ 3 _ rfl; (with_reducible repeat (first | refine blk_drewN ?_ _ | refine blk_drew ?_ | refine blk_alloc ?_ _)); refine blk_put (cs := #[.int .i64 (wrap64 (1 + t292)), .int .i64 t323, .int .i64 0, .int .i64 0, .int .i64 0, .int .i64 0]) ?_ 2 _ rfl; (with_reducible repeat (first | refine blk_drewN ?_ _ | refine blk_drew ?_ | refine blk_alloc ?_ _)); refine blk_put (cs := #[.int .i64 (wrap64 (1 + t292)), .int .i64 0, .int .i64 0, .int .i64 0, .int .i64 0, .int .i64 0]) ?_ 1 _ rfl; (with_reducible repeat (first | refine blk_drewN ?_ _ | refine blk_drew ?_ | refine blk_alloc ?_ _)); refine blk_put (cs := #[.int .i64 0, .int .i64 0, .int .i64 0, .int .i64 0, .int .i64 0, .int .i64 0]) ?_ 0 _ rfl; (with_reducible repeat (first | refine blk_drewN ?_ _ | refine blk_drew ?_ | refine blk_alloc ?_ _)); refine blk_far ?_ NB291_301.out _; (with_reducible repeat (first | refine blk_drewN ?_ _ | refine blk_drew ?_ | refine blk_alloc ?_ _)); exact BK291.out) Try.underlying75 rfl z127_19) rfl ?_
        exact ⟨by first | rfl | (simp [errW_none, errW_some] <;> rfl) | (simp [*, errW_none, errW_some] <;> rfl), by repeat (first | (with_reducible first | exact HI0.out | apply IsS119.alloc | apply IsS119.drewN | apply IsS119.drew | apply IsS119.set_1 | apply IsS119.set_2 | refine IsS119.far ?_ NB0_291.out _ | refine IsS119.far ?_ NB0_301.out _) | exact HI0.out), by repeat (first | (with_reducible first | exact HB.out | apply bA_ | apply bN_ | apply bD_ | refine bS_ ?_ (IsS119.ge HI0.out) | refine bS_ ?_ GE291.out | refine bS_ ?_ GE301.out) | exact HB.out), by repeat (first | (with_reducible first | exact HK.out | apply KeepBut.set_ | apply keep_drewN | apply keep_drew | apply keep_alloc | refine keep_far ?_ GW291.out _ | refine keep_far ?_ GW301.out _) | exact HK.out)⟩

/-! ### spec_l7Store: function 108 -/
def spec_l7Store.l0 : Nat → List (S75) → Int → List Int → Int → Int → Option ((List (S75)) × Int × Int)
  | 0, _, _, _, _, _ => none
  | k + 1, x3, x4, x1000, x1001, x1002 => if x4 > 0 then ((spec_l6Fact.f x1000 x1001 x1002).bind fun bt335 => ((spec_PutFact.f k x3 bt335.1 bt335.2.1 bt335.2.2.1 bt335.2.2.2.1 bt335.2.2.2.2.1 bt335.2.2.2.2.2.1).bind fun bt343 => (spec_l7Store.l0 k bt343.1 (wrap64 (x4 - 1)) x1000 bt335.2.2.2.2.2.2.1 bt335.2.2.2.2.2.2.2))) else (some (x3, x1001, x1002))
def spec_l7Store.f (k : Nat) (s0_0 : List Int) (s0_1 : Int) (s0_2 : Int) : Option ((List (S75)) × Int × Int) := (spec_l1Below.f s0_0 s0_1 s0_2 10).bind fun bt332 => (spec_l7Store.l0 k (([] : List (S75))) bt332.1 s0_0 bt332.2.1 bt332.2.2)
theorem spec_l7Store.mono_l : ∀ k, (∀ y0 y1 y2 y3 y4, LeO (spec_l7Store.l0 k y0 y1 y2 y3 y4) (spec_l7Store.l0 (k + 1) y0 y1 y2 y3 y4))
  | 0 => fun _ _ _ _ _ r h => by simp [spec_l7Store.l0] at h
  | k + 1 => by
    have ih0 := spec_l7Store.mono_l k
    · intro y0 y1 y2 y3 y4
      unfold spec_l7Store.l0
      repeat' first
      | (with_reducible exact ih0 _ _ _ _ _)
      | (with_reducible exact spec_PutFact.mono _ _ _ _ _ _ _ _)
      | (with_reducible exact LeO.refl _)
      | (with_reducible exact LeO.none _)
      | (with_reducible refine LeO.ite ?_ ?_)
      | (with_reducible refine LeO.bind ?_ (fun _ => ?_))
      | exact ih0 _ _ _ _ _
      | exact spec_PutFact.mono _ _ _ _ _ _ _ _
      | exact LeO.none _
      | refine LeO.ite ?_ ?_
      | refine LeO.bind ?_ (fun _ => ?_)
theorem spec_l7Store.mono : ∀ a0 a1 a2 k, LeO (spec_l7Store.f k a0 a1 a2) (spec_l7Store.f (k + 1) a0 a1 a2) := by
  intro a0 a1 a2 k
  have ih0 := spec_l7Store.mono_l k
  unfold spec_l7Store.f
  repeat' first
      | (with_reducible exact ih0 _ _ _ _ _)
      | (with_reducible exact spec_PutFact.mono _ _ _ _ _ _ _ _)
      | (with_reducible exact LeO.refl _)
      | (with_reducible exact LeO.none _)
      | (with_reducible refine LeO.ite ?_ ?_)
      | (with_reducible refine LeO.bind ?_ (fun _ => ?_))
      | exact ih0 _ _ _ _ _
      | exact spec_PutFact.mono _ _ _ _ _ _ _ _
      | exact LeO.none _
      | refine LeO.ite ?_ ?_
      | refine LeO.bind ?_ (fun _ => ?_)
theorem pR108_ {P Q : Prop} (h : P) (g : P → Q := by intro h_; (with_reducible repeat (first | apply Kd.R_alloc | apply Kd.R_drewN | apply Kd.R_drew)); exact h_) : Q := g h
theorem z108_0 {Q : Prop} (g : Q := by repeat (first | (with_reducible first | exact HK.out | apply KeepBut.set_ | apply keep_drewN | apply keep_drew | apply keep_alloc) | exact HK.out)) : Q := g
theorem z108_1 {Q : Prop} (g : Q := by (try simp only [List.map_toArray, List.map_cons, List.map_nil]); first | done | rfl | (simp only [List.length_drop, List.length_take]; rfl)) : Q := g
set_option maxHeartbeats 8000000 in
set_option maxRecDepth 100000 in
theorem spec_l7Store.calls (k : Nat) (g : Nat) (s0_0 : List Int) (s0_1 : Int) (s0_2 : Int) (r1 : List (S75)) (r2 : Int) (r3 : Int) (w0 w : World) (hI : IsS119 w0 w g s0_0 s0_1 s0_2) (hB : Below w0.heap.size w0 w) (h : spec_l7Store.f k s0_0 s0_1 s0_2 = some (r1, r2, r3)) :
    Calls Try.prog 108 #[.pointer (some ⟨g, 0, none⟩)] w fun e w' => ∃ v0_ : Value, e = .returned (v0_) ∧ Kd.R k75 75 w' w.heap.size (fun _ => True) v0_ r1 ∧ IsS119 w0 w' g s0_0 r2 r3 ∧ Below w0.heap.size w0 w' ∧ KeepBut w w' g none := by
  have HI0 := Aside0.mk hI
  have HK := Aside0.mk (KeepBut.refl w g none)
  have HL := Aside0.mk hB.size
  clear hI
  have HW0 := Aside0.mk hB.size
  have HB := Aside0.mk hB
  clear hB
  have H : ((spec_l1Below.f s0_0 s0_1 s0_2 10).bind fun bt332 => (spec_l7Store.l0 k (([] : List (S75))) bt332.1 s0_0 bt332.2.1 bt332.2.2)) = some (r1, r2, r3) := h
  clear h
  obtain ⟨y329, hy329⟩ : ∃ y_ : List (S75), y_ = (([] : List (S75))) := ⟨_, rfl⟩
  replace H : ((spec_l1Below.f s0_0 s0_1 s0_2 10).bind fun bt332 => (spec_l7Store.l0 k y329 bt332.1 s0_0 bt332.2.1 bt332.2.2)) = some (r1, r2, r3) := by first | (rw [hy329]; with_reducible exact H) | (have H2_ := (Option.bind_some _ _).symm.trans H; rw [hy329]; with_reducible exact H2_) | (have H2_ := (Option.bind_some _ _).symm.trans H; with_reducible exact H2_) | with_reducible exact H | (rw [hy329]; exact H) | exact H
  have Ny329 := Aside0.mk hy329
  clear hy329
  replace H := Option.bind_eq_some_iff.mp H
  obtain ⟨⟨t332, t333, t334⟩, A20, H⟩ := H
  replace H : (spec_l7Store.l0 k y329 t332 s0_0 t333 t334) = some (r1, r2, r3) := H
  have A2 := Aside0.mk A20
  clear A20
  have H' := Aside0.mk H
  clear H
  go_enter Try.func108, Try.ntmps108
  go_wp2_with (first | ((with_reducible refine gate_dst (N := 5) rfl ?_); refine Kd.R_lit k75 _ 75 ?hg (N := 5) ?hd (xs := ([] : List (S75))) (inner := []) (ok := fun _ => True) (okp := fun _ => True) ?hr ?hp (fun _ hk => hk) trivial (Below.refl _ _) (Nat.le_refl _) (by simp) ?_; (case hd => rfl); (case hg => rfl); (case hr => first | (go_simp; done) | (go_simp; rfl)); (case hp => exact (Reps.none _ _)); intro v330 w3 ho4 hb hg_ hnew_; clear hg_ hnew_; (first | rw [← Ny329.out] at ho4 | (simp only [Int.reduceToNat] at ho4; rw [← Ny329.out] at ho4)); have n0_ := Aside0.mk (Kd.R_lower ho4 (keep_size (w := w) (g := g) (row := none) z108_0)); have n1_ := Aside0.mk (IsS119.below (by repeat (first | (with_reducible first | exact HI0.out | apply IsS119.alloc | apply IsS119.drewN | apply IsS119.drew | apply IsS119.set_1 | apply IsS119.set_2) | exact HI0.out)) hb); have n2_ := Aside0.mk (KeepBut.trans z108_0 (KeepBut.of_below hb g none) (.inl rfl)); have n3_ := Aside0.mk (below_step (by repeat (first | (with_reducible first | exact HB.out | apply bA_ | apply bN_ | apply bD_ | refine bS_ ?_ (IsS119.ge HI0.out)) | exact HB.out)) hb); clear HI0; clear HK; clear HB; have HO331 := n0_; have HI0 := n1_; have HK := n2_; have HB := n3_; clear n0_ n1_ n2_ n3_; clear hb ho4) | ((with_reducible refine gate_callee (f := 105) rfl ?_); refine goesL_ (some 7) rfl rfl Try.func105 (by kernel_rfl) rfl #[.pointer (some ⟨g, 0, none⟩), .int .i64 10] rfl z108_1 ?_; (with_reducible refine (spec_l1Below.calls g s0_0 s0_1 s0_2 10 t332 t333 t334 w0 _ ?side1 ?side2 A2.out).mono ?_); (case side1 => repeat (first | (with_reducible first | exact HI0.out | apply IsS119.alloc | apply IsS119.drewN | apply IsS119.drew | apply IsS119.set_1 | apply IsS119.set_2) | exact HI0.out)); (case side2 => repeat (first | (with_reducible first | exact HB.out | apply bA_ | apply bN_ | apply bD_ | refine bS_ ?_ (IsS119.ge HI0.out)) | exact HB.out)); rintro e w5 ⟨rfl, hi, hb, hk⟩; refine ⟨_, rfl, ?_⟩; have n0_ := Aside0.mk (Kd.R_mono (Kd.R_keep (IsS119.apart (show IsS119 w0 _ g s0_0 s0_1 s0_2 from by repeat (first | (with_reducible first | exact HI0.out | apply IsS119.alloc | apply IsS119.drewN | apply IsS119.drew | apply IsS119.set_1 | apply IsS119.set_2) | exact HI0.out)) (pR108_ HO331.out) (by decide)) hk (fun _ h => h.2)) (fun _ h => h.1)); have n1_ := Aside0.mk (KeepBut.trans z108_0 hk (.inl rfl)); have n2_ := Aside0.mk (hb); have n3_ := Aside0.mk (hi); clear HO331; clear HK; clear HB; clear HI0; have HO331 := n0_; have HK := n1_; have HB := n2_; have HI0 := n3_; clear n0_ n1_ n2_ n3_; (try clear hb); (try clear hb2); (try clear hk); (try clear hi)))
  go_loopg [3, 4] k (fun kq v3 v4 w' => ∃ (x3_1 : List (S75)) (x4_1 : Int) (x1001_1 : Int) (x1002_1 : Int), v4 = .int .i64 x4_1 ∧ Aside0 (spec_l7Store.l0 kq x3_1 x4_1 s0_0 x1001_1 x1002_1 = some (r1, r2, r3)) ∧ Aside0 (kq ≤ k) ∧ Aside0 (Kd.R k75 75 w' w.heap.size (fun _ => True) v3 x3_1) ∧ Aside0 (IsS119 w0 w' g s0_0 x1001_1 x1002_1) ∧ Aside0 (KeepBut w w' g none) ∧ Aside0 (Below w0.heap.size w0 w'))
  case atStart => exact ⟨(y329), (t332), (t333), (t334), (by first | rfl | (simp; done) | (simp [*]; done)), H', ⟨Nat.le_refl _⟩, ⟨by (with_reducible repeat (first | apply Kd.R_alloc | apply Kd.R_drewN | apply Kd.R_drew)); exact HO331.out⟩, ⟨by repeat (first | (with_reducible first | exact HI0.out | apply IsS119.alloc | apply IsS119.drewN | apply IsS119.drew | apply IsS119.set_1 | apply IsS119.set_2) | exact HI0.out)⟩, ⟨by repeat (first | (with_reducible first | exact HK.out | apply KeepBut.set_ | apply keep_drewN | apply keep_drew | apply keep_alloc) | exact HK.out)⟩, ⟨by repeat (first | (with_reducible first | exact HB.out | apply bA_ | apply bN_ | apply bD_ | refine bS_ ?_ (IsS119.ge HI0.out)) | exact HB.out)⟩⟩
  case round =>
    clear H'
    try clear c1
    try clear p2
    obtain ⟨x3_1, x4_1, x1001_1, x1002_1, rfl, HA, HK1, HO_3, HI0, HK, HB⟩ := hrel
    cases gk with
    | zero => exact absurd HA.out (by simp [spec_l7Store.l0])
    | succ k1 =>
      have H := HA.out
      clear HA
      simp only [spec_l7Store.l0] at H
      by_cases c6 : x4_1 > 0
      · rw [if_pos c6] at H
        have c6b0 : decide (0 < x4_1) = true := decide_eq_true c6
        clear c6
        replace H := Option.bind_eq_some_iff.mp H
        obtain ⟨⟨t335, t336, t337, t338, t339, t340, t341, t342⟩, A70, H⟩ := H
        replace H : ((spec_PutFact.f k1 x3_1 t335 t336 t337 t338 t339 t340).bind fun bt343 => (spec_l7Store.l0 k1 bt343.1 (wrap64 (x4_1 - 1)) s0_0 t341 t342)) = some (r1, r2, r3) := H
        have A7 := Aside0.mk A70
        clear A70
        replace H := Option.bind_eq_some_iff.mp H
        obtain ⟨⟨t343, t346⟩, A80, H⟩ := H
        replace H : (spec_l7Store.l0 k1 t343 (wrap64 (x4_1 - 1)) s0_0 t341 t342) = some (r1, r2, r3) := H
        have A8 := Aside0.mk A80
        clear A80
        have H' := Aside0.mk H
        clear H
        go_wp2_with (first | ((with_reducible refine gate_callee (f := 127) rfl ?_); refine goesL_ (some 15) rfl rfl Try.func127 (by kernel_rfl) rfl #[.pointer (some ⟨g, 0, none⟩)] rfl z108_1 ?_; (with_reducible refine (spec_l6Fact.calls g s0_0 x1001_1 x1002_1 t335 t336 t337 t338 t339 t340 t341 t342 w0 _ ?side1 ?side2 A7.out).mono ?_); (case side1 => repeat (first | (with_reducible first | exact HI0.out | apply IsS119.alloc | apply IsS119.drewN | apply IsS119.drew | apply IsS119.set_1 | apply IsS119.set_2) | exact HI0.out)); (case side2 => repeat (first | (with_reducible first | exact HB.out | apply bA_ | apply bN_ | apply bD_ | refine bS_ ?_ (IsS119.ge HI0.out)) | exact HB.out)); rintro e w9 ⟨rfl, hi, hb, hk⟩; refine ⟨_, rfl, ?_⟩; have n0_ := Aside0.mk (Kd.R_mono (Kd.R_keep (IsS119.apart (show IsS119 w0 _ g s0_0 x1001_1 x1002_1 from by repeat (first | (with_reducible first | exact HI0.out | apply IsS119.alloc | apply IsS119.drewN | apply IsS119.drew | apply IsS119.set_1 | apply IsS119.set_2) | exact HI0.out)) (pR108_ HO_3.out) (by decide)) hk (fun _ h => h.2)) (fun _ h => h.1)); have n1_ := Aside0.mk (KeepBut.trans z108_0 hk (.inl rfl)); have n2_ := Aside0.mk (hb); have n3_ := Aside0.mk (hi); clear HO_3; clear HK; clear HB; clear HI0; have HO_3 := n0_; have HK := n1_; have HB := n2_; have HI0 := n3_; clear n0_ n1_ n2_ n3_; (try clear hb); (try clear hb2); (try clear hk); (try clear hi); obtain ⟨Ao10, co10, eo10⟩ := Kd.R_slice HO_3.out; subst eo10) | ((with_reducible refine gate_callee (f := 126) rfl ?_); refine goesL_ (some 16) rfl rfl Try.func126 (by kernel_rfl) rfl #[.slice Ao10 x3_1.length co10, .agg #[.int .i64 t335, .int .i64 t336, .int .i64 t337, .int .i64 t338, .int .i64 t339, .int .i64 t340]] rfl z108_1 ?_; (with_reducible refine (spec_PutFact.calls k1 _ _ x3_1 t335 t336 t337 t338 t339 t340 t343 t346 _ ?side1 ?side2 A8.out).mono ?_); (case side1 => repeat (first | exact (Kd.R_reads' HO_3.out).2.2 | (with_reducible refine Kd.C_alloc ?_ _) | (with_reducible refine Kd.C_drewN ?_ _) | (with_reducible refine Kd.C_drew ?_))); (case side2 => exact (Kd.R_reads' HO_3.out).2.1); rintro e w11 ⟨v344, rfl, ho0, hb⟩; refine ⟨_, rfl, ?_⟩; have n0_ := Aside0.mk (Kd.R_elder' (pR108_ HO_3.out) (Kd.R_base ho0) hb); have n1_ := Aside0.mk (Kd.R_lower (Kd.R_new' ho0 (Kd.R_lt (pR108_ HO_3.out))) (keep_size (w := w) (g := g) (row := none) z108_0)); have n2_ := Aside0.mk (IsS119.below (by repeat (first | (with_reducible first | exact HI0.out | apply IsS119.alloc | apply IsS119.drewN | apply IsS119.drew | apply IsS119.set_1 | apply IsS119.set_2) | exact HI0.out)) hb); have n3_ := Aside0.mk (KeepBut.trans z108_0 (KeepBut.of_below hb g none) (.inl rfl)); have n4_ := Aside0.mk (below_step (by repeat (first | (with_reducible first | exact HB.out | apply bA_ | apply bN_ | apply bD_ | refine bS_ ?_ (IsS119.ge HI0.out)) | exact HB.out)) hb); clear HO_3; clear HI0; clear HK; clear HB; have HO_3 := n0_; have HO345 := n1_; have HI0 := n2_; have HK := n3_; have HB := n4_; clear n0_ n1_ n2_ n3_ n4_; (try clear hb); (try clear hb2); (try clear hk); (try clear hi); (try clear ho0)))
        go_roundg k1
        case measure => have := HK1.out; omega
        case rel => exact ⟨(t343), (wrap64 (x4_1 - 1)), (t341), (t342), (by first | rfl | (simp; done) | (simp [*]; done)), H', ⟨by have := HK1.out; omega⟩, ⟨by (with_reducible repeat (first | apply Kd.R_alloc | apply Kd.R_drewN | apply Kd.R_drew)); exact Kd.R_mono HO345.out (fun _ hk => trivial)⟩, ⟨by repeat (first | (with_reducible first | exact HI0.out | apply IsS119.alloc | apply IsS119.drewN | apply IsS119.drew | apply IsS119.set_1 | apply IsS119.set_2) | exact HI0.out)⟩, ⟨by repeat (first | (with_reducible first | exact HK.out | apply KeepBut.set_ | apply keep_drewN | apply keep_drew | apply keep_alloc) | exact HK.out)⟩, ⟨by repeat (first | (with_reducible first | exact HB.out | apply bA_ | apply bN_ | apply bD_ | refine bS_ ?_ (IsS119.ge HI0.out)) | exact HB.out)⟩⟩
      · rw [if_neg c6] at H
        have c6b0 : decide (0 < x4_1) = false := decide_eq_false c6
        clear c6
        simp only [Option.some.injEq, Prod.mk.injEq] at H
        obtain ⟨rfl, rfl, rfl⟩ := H
        go_wp2
        go_ret
        exact ⟨_, by first | rfl | (simp [errW_none, errW_some] <;> rfl) | (simp [*, errW_none, errW_some] <;> rfl), by (with_reducible repeat (first | apply Kd.R_alloc | apply Kd.R_drewN | apply Kd.R_drew)); exact HO_3.out, by repeat (first | (with_reducible first | exact HI0.out | apply IsS119.alloc | apply IsS119.drewN | apply IsS119.drew | apply IsS119.set_1 | apply IsS119.set_2) | exact HI0.out), by repeat (first | (with_reducible first | exact HB.out | apply bA_ | apply bN_ | apply bD_ | refine bS_ ?_ (IsS119.ge HI0.out)) | exact HB.out), by repeat (first | (with_reducible first | exact HK.out | apply KeepBut.set_ | apply keep_drewN | apply keep_drew | apply keep_alloc) | exact HK.out)⟩

/-! ### spec_DrawRolesOf: function 93 -/
def spec_DrawRolesOf.f (k : Nat) (l0 : List Int) : Option ((List (S78)) × (List (S75)) × Int × Int × Int) := (spec_l1New.f k l0).bind fun bt347 => ((spec_l14Pairs.f k bt347.1 bt347.2.1 bt347.2.2).bind fun bt351 => ((spec_l7Store.f k bt347.1 bt351.2.1 bt351.2.2).bind fun bt356 => ((spec_l5Name.f bt347.1 bt356.2.1 bt356.2.2 1).bind fun bt361 => ((spec_l1Below.f bt347.1 bt361.2.1 bt361.2.2 25).bind fun bt364 => ((spec_l1Int.f bt347.1 bt364.2.1 bt364.2.2 (([5, 20, 0] : List Int))).bind fun bt370 => (some (bt351.1, bt356.1, bt361.1, bt364.1, bt370.1)))))))
theorem spec_DrawRolesOf.mono : ∀ a0 k, LeO (spec_DrawRolesOf.f k a0) (spec_DrawRolesOf.f (k + 1) a0) := by
  intro a0 k
  unfold spec_DrawRolesOf.f
  repeat' first
      | (with_reducible exact spec_l14Pairs.mono _ _ _ _)
      | (with_reducible exact spec_l1New.mono _ _)
      | (with_reducible exact spec_l7Store.mono _ _ _ _)
      | (with_reducible exact LeO.refl _)
      | (with_reducible exact LeO.none _)
      | (with_reducible refine LeO.ite ?_ ?_)
      | (with_reducible refine LeO.bind ?_ (fun _ => ?_))
      | exact spec_l14Pairs.mono _ _ _ _
      | exact spec_l1New.mono _ _
      | exact spec_l7Store.mono _ _ _ _
      | exact LeO.none _
      | refine LeO.ite ?_ ?_
      | refine LeO.bind ?_ (fun _ => ?_)
theorem pR93_ {P Q : Prop} (h : P) (g : P → Q := by intro h_; (with_reducible repeat (first | apply Kd.R_alloc | apply Kd.R_drewN | apply Kd.R_drew)); exact h_) : Q := g h
theorem z93_0 {Q : Prop} (g : Q := by (try simp only [List.map_toArray, List.map_cons, List.map_nil]); first | done | rfl | (simp only [List.length_drop, List.length_take]; rfl)) : Q := g
theorem z93_1 {Q : Prop} (g : Q := by repeat (first | (with_reducible first | exact HB.out | apply bA_ | apply bN_ | apply bD_ | refine bS_ ?_ (IsS119.ge HI350.out)) | exact HB.out)) : Q := g
set_option maxHeartbeats 8000000 in
set_option maxRecDepth 100000 in
theorem spec_DrawRolesOf.calls (k : Nat) (A0 : Option Addr) (c0 : Nat) (l0 : List Int) (r1 : List (S78)) (r2 : List (S75)) (r3 : Int) (r4 : Int) (r5 : Int) (w : World) (hr0 : Kd.C (Kd.int .u8) w A0 l0.length l0) (hc0 : l0.length ≤ c0) (h : spec_DrawRolesOf.f k l0 = some (r1, r2, r3, r4, r5)) :
    Calls Try.prog 93 #[.slice A0 l0.length c0] w fun e w' => ∃ v0_ v1_ : Value, e = .returned (.tuple #[v0_, v1_, .int .i64 r3, .int .i64 r4, .int .i64 r5]) ∧ Kd.R k78 78 w' w.heap.size (fun _ => True) v0_ r1 ∧ Kd.R k75 75 w' w.heap.size (fun _ => True) v1_ r2 ∧ Below w.heap.size w w' := by
  have HR0 := Aside0.mk hr0
  have HC0 := Aside0.mk hc0
  clear hr0 hc0
  have HB := Aside0.mk (Below.refl w.heap.size w)
  have H : ((spec_l1New.f k l0).bind fun bt347 => ((spec_l14Pairs.f k bt347.1 bt347.2.1 bt347.2.2).bind fun bt351 => ((spec_l7Store.f k bt347.1 bt351.2.1 bt351.2.2).bind fun bt356 => ((spec_l5Name.f bt347.1 bt356.2.1 bt356.2.2 1).bind fun bt361 => ((spec_l1Below.f bt347.1 bt361.2.1 bt361.2.2 25).bind fun bt364 => ((spec_l1Int.f bt347.1 bt364.2.1 bt364.2.2 (([5, 20, 0] : List Int))).bind fun bt370 => (some (bt351.1, bt356.1, bt361.1, bt364.1, bt370.1)))))))) = some (r1, r2, r3, r4, r5) := h
  clear h
  replace H := Option.bind_eq_some_iff.mp H
  obtain ⟨⟨t347, t348, t349⟩, A20, H⟩ := H
  replace H : ((spec_l14Pairs.f k t347 t348 t349).bind fun bt351 => ((spec_l7Store.f k t347 bt351.2.1 bt351.2.2).bind fun bt356 => ((spec_l5Name.f t347 bt356.2.1 bt356.2.2 1).bind fun bt361 => ((spec_l1Below.f t347 bt361.2.1 bt361.2.2 25).bind fun bt364 => ((spec_l1Int.f t347 bt364.2.1 bt364.2.2 (([5, 20, 0] : List Int))).bind fun bt370 => (some (bt351.1, bt356.1, bt361.1, bt364.1, bt370.1))))))) = some (r1, r2, r3, r4, r5) := H
  have A2 := Aside0.mk A20
  clear A20
  replace H := Option.bind_eq_some_iff.mp H
  obtain ⟨⟨t351, t354, t355⟩, A30, H⟩ := H
  replace H : ((spec_l7Store.f k t347 t354 t355).bind fun bt356 => ((spec_l5Name.f t347 bt356.2.1 bt356.2.2 1).bind fun bt361 => ((spec_l1Below.f t347 bt361.2.1 bt361.2.2 25).bind fun bt364 => ((spec_l1Int.f t347 bt364.2.1 bt364.2.2 (([5, 20, 0] : List Int))).bind fun bt370 => (some (t351, bt356.1, bt361.1, bt364.1, bt370.1)))))) = some (r1, r2, r3, r4, r5) := H
  have A3 := Aside0.mk A30
  clear A30
  replace H := Option.bind_eq_some_iff.mp H
  obtain ⟨⟨t356, t359, t360⟩, A40, H⟩ := H
  replace H : ((spec_l5Name.f t347 t359 t360 1).bind fun bt361 => ((spec_l1Below.f t347 bt361.2.1 bt361.2.2 25).bind fun bt364 => ((spec_l1Int.f t347 bt364.2.1 bt364.2.2 (([5, 20, 0] : List Int))).bind fun bt370 => (some (t351, t356, bt361.1, bt364.1, bt370.1))))) = some (r1, r2, r3, r4, r5) := H
  have A4 := Aside0.mk A40
  clear A40
  replace H := Option.bind_eq_some_iff.mp H
  obtain ⟨⟨t361, t362, t363⟩, A50, H⟩ := H
  replace H : ((spec_l1Below.f t347 t362 t363 25).bind fun bt364 => ((spec_l1Int.f t347 bt364.2.1 bt364.2.2 (([5, 20, 0] : List Int))).bind fun bt370 => (some (t351, t356, t361, bt364.1, bt370.1)))) = some (r1, r2, r3, r4, r5) := H
  have A5 := Aside0.mk A50
  clear A50
  replace H := Option.bind_eq_some_iff.mp H
  obtain ⟨⟨t364, t365, t366⟩, A60, H⟩ := H
  replace H : ((spec_l1Int.f t347 t365 t366 (([5, 20, 0] : List Int))).bind fun bt370 => (some (t351, t356, t361, t364, bt370.1))) = some (r1, r2, r3, r4, r5) := H
  have A6 := Aside0.mk A60
  clear A60
  obtain ⟨y367, hy367⟩ : ∃ y_ : List Int, y_ = (([5, 20, 0] : List Int)) := ⟨_, rfl⟩
  replace H : ((spec_l1Int.f t347 t365 t366 y367).bind fun bt370 => (some (t351, t356, t361, t364, bt370.1))) = some (r1, r2, r3, r4, r5) := by first | (rw [hy367]; with_reducible exact H) | (have H2_ := (Option.bind_some _ _).symm.trans H; rw [hy367]; with_reducible exact H2_) | (have H2_ := (Option.bind_some _ _).symm.trans H; with_reducible exact H2_) | with_reducible exact H | (rw [hy367]; exact H) | exact H
  have Ny367 := Aside0.mk hy367
  clear hy367
  replace H := Option.bind_eq_some_iff.mp H
  obtain ⟨⟨t370, t371, t372⟩, A70, H⟩ := H
  replace H : (some (t351, t356, t361, t364, t370)) = some (r1, r2, r3, r4, r5) := H
  have A7 := Aside0.mk A70
  clear A70
  simp only [Option.some.injEq, Prod.mk.injEq] at H
  obtain ⟨rfl, rfl, rfl, rfl, rfl⟩ := H
  go_enter Try.func93, Try.ntmps93
  go_wp2_with (first | ((with_reducible refine gate_callee (f := 82) rfl ?_); refine goesL_ (some 13) rfl rfl Try.func82 (by kernel_rfl) rfl #[.slice A0 l0.length c0] rfl z93_0 ?_; (with_reducible refine (spec_l1New.calls k _ _ l0 t347 t348 t349 w _ ?side1 ?side2 ?side3 A2.out).mono ?_); (case side1 => repeat (first | (with_reducible first | exact HB.out | apply bA_ | apply bN_ | apply bD_) | exact HB.out)); (case side2 => exact HR0.out); (case side3 => exact HC0.out); rintro e w8 ⟨g350, rfl, hi, hb, hb2⟩; refine ⟨_, rfl, ?_⟩; have n0_ := Aside0.mk (hb); have n1_ := Aside0.mk (hi); clear HB; have HB := n0_; have HI350 := n1_; clear n0_ n1_; (try clear hb); (try clear hb2); (try clear hk); (try clear hi)) | ((with_reducible refine gate_callee (f := 107) rfl ?_); refine goesL_ (some 15) rfl rfl Try.func107 (by kernel_rfl) rfl #[.pointer (some ⟨g350, 0, none⟩)] rfl z93_0 ?_; (with_reducible refine (spec_l14Pairs.calls k g350 t347 t348 t349 t351 t354 t355 w _ ?side1 ?side2 A3.out).mono ?_); (case side1 => repeat (first | (with_reducible first | exact HI350.out | apply IsS119.alloc | apply IsS119.drewN | apply IsS119.drew | apply IsS119.set_1 | apply IsS119.set_2) | exact HI350.out)); (case side2 => repeat (first | (with_reducible first | exact HB.out | apply bA_ | apply bN_ | apply bD_ | refine bS_ ?_ (IsS119.ge HI350.out)) | exact HB.out)); rintro e w9 ⟨v352, rfl, ho0, hi, hb, hk⟩; refine ⟨_, rfl, ?_⟩; have n0_ := Aside0.mk (Kd.R_lower ho0 (below_size z93_1)); have n1_ := Aside0.mk (hb); have n2_ := Aside0.mk (hi); clear HB; clear HI350; have HO353 := n0_; have HB := n1_; have HI350 := n2_; clear n0_ n1_ n2_; (try clear hb); (try clear hb2); (try clear hk); (try clear hi); (try clear ho0)) | ((with_reducible refine gate_callee (f := 108) rfl ?_); refine goesL_ (some 17) rfl rfl Try.func108 (by kernel_rfl) rfl #[.pointer (some ⟨g350, 0, none⟩)] rfl z93_0 ?_; (with_reducible refine (spec_l7Store.calls k g350 t347 t354 t355 t356 t359 t360 w _ ?side1 ?side2 A4.out).mono ?_); (case side1 => repeat (first | (with_reducible first | exact HI350.out | apply IsS119.alloc | apply IsS119.drewN | apply IsS119.drew | apply IsS119.set_1 | apply IsS119.set_2) | exact HI350.out)); (case side2 => repeat (first | (with_reducible first | exact HB.out | apply bA_ | apply bN_ | apply bD_ | refine bS_ ?_ (IsS119.ge HI350.out)) | exact HB.out)); rintro e w10 ⟨v357, rfl, ho0, hi, hb, hk⟩; refine ⟨_, rfl, ?_⟩; have n0_ := Aside0.mk (Kd.R_mono (Kd.R_keep (IsS119.apart (show IsS119 w _ g350 t347 t354 t355 from by repeat (first | (with_reducible first | exact HI350.out | apply IsS119.alloc | apply IsS119.drewN | apply IsS119.drew | apply IsS119.set_1 | apply IsS119.set_2) | exact HI350.out)) (pR93_ HO353.out) (by decide)) hk (fun _ h => h.2)) (fun _ h => h.1)); have n1_ := Aside0.mk (Kd.R_lower ho0 (below_size z93_1)); have n2_ := Aside0.mk (hb); have n3_ := Aside0.mk (hi); clear HO353; clear HB; clear HI350; have HO353 := n0_; have HO358 := n1_; have HB := n2_; have HI350 := n3_; clear n0_ n1_ n2_ n3_; (try clear hb); (try clear hb2); (try clear hk); (try clear hi); (try clear ho0)) | ((with_reducible refine gate_callee (f := 109) rfl ?_); refine goesL_ (some 19) rfl rfl Try.func109 (by kernel_rfl) rfl #[.pointer (some ⟨g350, 0, none⟩), .int .i64 1] rfl z93_0 ?_; (with_reducible refine (spec_l5Name.calls g350 t347 t359 t360 1 t361 t362 t363 w _ ?side1 ?side2 A5.out).mono ?_); (case side1 => repeat (first | (with_reducible first | exact HI350.out | apply IsS119.alloc | apply IsS119.drewN | apply IsS119.drew | apply IsS119.set_1 | apply IsS119.set_2) | exact HI350.out)); (case side2 => repeat (first | (with_reducible first | exact HB.out | apply bA_ | apply bN_ | apply bD_ | refine bS_ ?_ (IsS119.ge HI350.out)) | exact HB.out)); rintro e w11 ⟨rfl, hi, hb, hk⟩; refine ⟨_, rfl, ?_⟩; have n0_ := Aside0.mk (Kd.R_mono (Kd.R_keep (IsS119.apart (show IsS119 w _ g350 t347 t359 t360 from by repeat (first | (with_reducible first | exact HI350.out | apply IsS119.alloc | apply IsS119.drewN | apply IsS119.drew | apply IsS119.set_1 | apply IsS119.set_2) | exact HI350.out)) (pR93_ HO353.out) (by decide)) hk (fun _ h => h.2)) (fun _ h => h.1)); have n1_ := Aside0.mk (Kd.R_mono (Kd.R_keep (IsS119.apart (show IsS119 w _ g350 t347 t359 t360 from by repeat (first | (with_reducible first | exact HI350.out | apply IsS119.alloc | apply IsS119.drewN | apply IsS119.drew | apply IsS119.set_1 | apply IsS119.set_2) | exact HI350.out)) (pR93_ HO358.out) (by decide)) hk (fun _ h => h.2)) (fun _ h => h.1)); have n2_ := Aside0.mk (hb); have n3_ := Aside0.mk (hi); clear HO353; clear HO358; clear HB; clear HI350; have HO353 := n0_; have HO358 := n1_; have HB := n2_; have HI350 := n3_; clear n0_ n1_ n2_ n3_; (try clear hb); (try clear hb2); (try clear hk); (try clear hi)) | ((with_reducible refine gate_callee (f := 105) rfl ?_); refine goesL_ (some 21) rfl rfl Try.func105 (by kernel_rfl) rfl #[.pointer (some ⟨g350, 0, none⟩), .int .i64 25] rfl z93_0 ?_; (with_reducible refine (spec_l1Below.calls g350 t347 t362 t363 25 t364 t365 t366 w _ ?side1 ?side2 A6.out).mono ?_); (case side1 => repeat (first | (with_reducible first | exact HI350.out | apply IsS119.alloc | apply IsS119.drewN | apply IsS119.drew | apply IsS119.set_1 | apply IsS119.set_2) | exact HI350.out)); (case side2 => repeat (first | (with_reducible first | exact HB.out | apply bA_ | apply bN_ | apply bD_ | refine bS_ ?_ (IsS119.ge HI350.out)) | exact HB.out)); rintro e w12 ⟨rfl, hi, hb, hk⟩; refine ⟨_, rfl, ?_⟩; have n0_ := Aside0.mk (Kd.R_mono (Kd.R_keep (IsS119.apart (show IsS119 w _ g350 t347 t362 t363 from by repeat (first | (with_reducible first | exact HI350.out | apply IsS119.alloc | apply IsS119.drewN | apply IsS119.drew | apply IsS119.set_1 | apply IsS119.set_2) | exact HI350.out)) (pR93_ HO353.out) (by decide)) hk (fun _ h => h.2)) (fun _ h => h.1)); have n1_ := Aside0.mk (Kd.R_mono (Kd.R_keep (IsS119.apart (show IsS119 w _ g350 t347 t362 t363 from by repeat (first | (with_reducible first | exact HI350.out | apply IsS119.alloc | apply IsS119.drewN | apply IsS119.drew | apply IsS119.set_1 | apply IsS119.set_2) | exact HI350.out)) (pR93_ HO358.out) (by decide)) hk (fun _ h => h.2)) (fun _ h => h.1)); have n2_ := Aside0.mk (hb); have n3_ := Aside0.mk (hi); clear HO353; clear HO358; clear HB; clear HI350; have HO353 := n0_; have HO358 := n1_; have HB := n2_; have HI350 := n3_; clear n0_ n1_ n2_ n3_; (try clear hb); (try clear hb2); (try clear hk); (try clear hi)) | ((with_reducible refine gate_dst (N := 27) rfl ?_); refine Kd.R_lit (Kd.int .i64) _ 3 ?hg (N := 27) ?hd (xs := ([5, 20, 0] : List Int)) (inner := [.int .i64 5, .int .i64 20, .int .i64 0]) (ok := fun _ => True) (okp := fun _ => True) ?hr ?hp (fun _ hk => hk) trivial (Below.refl _ _) (Nat.le_refl _) (by simp) ?_; (case hd => rfl); (case hg => rfl); (case hr => first | (go_simp; done) | (go_simp; rfl)); (case hp => exact (Reps.one (show Kd.M (Kd.int .i64) _ _ _ 5 [.int .i64 5] from rfl) (Reps.one (show Kd.M (Kd.int .i64) _ _ _ 20 [.int .i64 20] from rfl) (Reps.one (show Kd.M (Kd.int .i64) _ _ _ 0 [.int .i64 0] from rfl) (Reps.none _ _))))); intro v368 w13 ho14 hb hg_ hnew_; clear hg_ hnew_; (first | rw [← Ny367.out] at ho14 | (simp only [Int.reduceToNat] at ho14; rw [← Ny367.out] at ho14)); have n0_ := Aside0.mk (Kd.R_below (pR93_ HO353.out) hb); have n1_ := Aside0.mk (Kd.R_below (pR93_ HO358.out) hb); have n2_ := Aside0.mk (Kd.R_lower ho14 (below_size z93_1)); have n3_ := Aside0.mk (IsS119.below (by repeat (first | (with_reducible first | exact HI350.out | apply IsS119.alloc | apply IsS119.drewN | apply IsS119.drew | apply IsS119.set_1 | apply IsS119.set_2) | exact HI350.out)) hb); have n4_ := Aside0.mk (below_step z93_1 hb); clear HO353; clear HO358; clear HI350; clear HB; have HO353 := n0_; have HO358 := n1_; have HO369 := n2_; have HI350 := n3_; have HB := n4_; clear n0_ n1_ n2_ n3_ n4_; clear hb ho14; obtain ⟨Ao15, co15, eo15⟩ := Kd.R_slice HO369.out; subst eo15) | ((with_reducible refine gate_callee (f := 85) rfl ?_); refine goesL_ (some 28) rfl rfl Try.func85 (by kernel_rfl) rfl #[.pointer (some ⟨g350, 0, none⟩), .slice Ao15 y367.length co15] rfl z93_0 ?_; (with_reducible refine (spec_l1Int.calls g350 t347 t365 t366 _ _ y367 t370 t371 t372 w _ ?side1 ?side2 ?side3 ?side4 ?side5 A7.out).mono ?_); (case side1 => repeat (first | (with_reducible first | exact HI350.out | apply IsS119.alloc | apply IsS119.drewN | apply IsS119.drew | apply IsS119.set_1 | apply IsS119.set_2) | exact HI350.out)); (case side2 => repeat (first | (with_reducible first | exact HB.out | apply bA_ | apply bN_ | apply bD_ | refine bS_ ?_ (IsS119.ge HI350.out)) | exact HB.out)); (case side3 => repeat (first | exact (Kd.R_reads' HO369.out).2.2 | (with_reducible refine Kd.C_alloc ?_ _) | (with_reducible refine Kd.C_drewN ?_ _) | (with_reducible refine Kd.C_drew ?_))); (case side4 => exact (Kd.R_reads' HO369.out).2.1); (case side5 => exact far_slice (IsS119.own_ne HI350.out HO369.out (by decide))); rintro e w16 ⟨rfl, hi, hb, hk⟩; refine ⟨_, rfl, ?_⟩; have n0_ := Aside0.mk (Kd.R_mono (Kd.R_keep (IsS119.apart (show IsS119 w _ g350 t347 t365 t366 from by repeat (first | (with_reducible first | exact HI350.out | apply IsS119.alloc | apply IsS119.drewN | apply IsS119.drew | apply IsS119.set_1 | apply IsS119.set_2) | exact HI350.out)) (pR93_ HO353.out) (by decide)) hk (fun _ h => h.2)) (fun _ h => h.1)); have n1_ := Aside0.mk (Kd.R_mono (Kd.R_keep (IsS119.apart (show IsS119 w _ g350 t347 t365 t366 from by repeat (first | (with_reducible first | exact HI350.out | apply IsS119.alloc | apply IsS119.drewN | apply IsS119.drew | apply IsS119.set_1 | apply IsS119.set_2) | exact HI350.out)) (pR93_ HO358.out) (by decide)) hk (fun _ h => h.2)) (fun _ h => h.1)); have n2_ := Aside0.mk (Kd.R_mono (Kd.R_keep (IsS119.apart (show IsS119 w _ g350 t347 t365 t366 from by repeat (first | (with_reducible first | exact HI350.out | apply IsS119.alloc | apply IsS119.drewN | apply IsS119.drew | apply IsS119.set_1 | apply IsS119.set_2) | exact HI350.out)) (pR93_ HO369.out) (by decide)) hk (fun _ h => h.2)) (fun _ h => h.1)); have n3_ := Aside0.mk (hb); have n4_ := Aside0.mk (hi); clear HO353; clear HO358; clear HO369; clear HB; clear HI350; have HO353 := n0_; have HO358 := n1_; have HO369 := n2_; have HB := n3_; have HI350 := n4_; clear n0_ n1_ n2_ n3_ n4_; (try clear hb); (try clear hb2); (try clear hk); (try clear hi)))
  refine bodyPost_ret (results_list (rs := [.tmp 2, .tmp 3, .tmp 4, .tmp 5, .tmp 6]) rfl (by simp) (.tmp (.tmp (.tmp (.tmp (.tmp .nil)))))) rfl ?_
  exact ⟨_, _, by first | rfl | (simp [errW_none, errW_some] <;> rfl) | (simp [*, errW_none, errW_some] <;> rfl), by (with_reducible repeat (first | apply Kd.R_alloc | apply Kd.R_drewN | apply Kd.R_drew)); exact HO353.out, by (with_reducible repeat (first | apply Kd.R_alloc | apply Kd.R_drewN | apply Kd.R_drew)); exact HO358.out, by repeat (first | (with_reducible first | exact HB.out | apply bA_ | apply bN_ | apply bD_ | refine bS_ ?_ (IsS119.ge HI350.out)) | exact HB.out)⟩

end Go.Proofs.Ytgmgoabohppkeaa.XFnRoles
