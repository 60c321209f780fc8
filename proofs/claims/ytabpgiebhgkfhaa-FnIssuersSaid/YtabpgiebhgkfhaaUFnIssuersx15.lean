/- Written by this session's own program (wip/xprint, which runs over the kit's print): what the functions that the law reaches come to, each proved; and the law's row. Conditions: none. -/
import Derived.Test.YtabpgiebhgkfhaaUFnIssuersSq
import Derived.Test.YtabpgiebhgkfhaaUFnIssuersx0
import Derived.Test.YtabpgiebhgkfhaaUFnIssuersx14
namespace Go.Proofs.Ytabpgiebhgkfhaa.XFnIssuers
open Go.RowKit Go.Proofs.YtabpgiebhgkfhaaW.PrintWords Go.Proofs.YtabpgiebhgkfhaaW.PrintLast Go.Proofs.YtabpgiebhgkfhaaW.PrintMore Go.Proofs.YtabpgiebhgkfhaaSq
attribute [local go_sem] max2_int min2_int max_two min_two max_three min_three max_four min_four   -- for this text's walks alone
set_option linter.unusedVariables false
set_option linter.unusedSimpArgs false

/-! ### spec_l6Fact: function 121 -/
def spec_l6Fact.f (s0_0 : List Int) (s0_1 : Int) (s0_2 : Int) : Option (Int × Int × Int × Int × Int × Int × Int × Int) := (spec_l1Below.f s0_0 s0_1 s0_2 4).bind fun bt376 => ((spec_l1Below.f s0_0 bt376.2.1 bt376.2.2 3).bind fun bt379 => ((spec_l1Below.f s0_0 bt379.2.1 bt379.2.2 20).bind fun bt382 => ((spec_l1Below.f s0_0 bt382.2.1 bt382.2.2 30).bind fun bt386 => (if (wrap64 (1 + bt376.1)) = 1 then ((spec_l5Name.f s0_0 bt386.2.1 bt386.2.2 1).bind fun bt389 => ((spec_l1Below.f s0_0 bt389.2.1 bt389.2.2 4).bind fun bt392 => (some (wrap64 (1 + bt376.1), bt389.1, bt392.1, bt379.1, bt382.1, wrap64 (bt382.1 + bt386.1), bt392.2.1, bt392.2.2)))) else (if (wrap64 (1 + bt376.1)) = 2 then ((spec_l5Name.f s0_0 bt386.2.1 bt386.2.2 1).bind fun bt395 => ((spec_l5Name.f s0_0 bt395.2.1 bt395.2.2 2).bind fun bt398 => (some (wrap64 (1 + bt376.1), bt395.1, bt398.1, bt379.1, bt382.1, wrap64 (bt382.1 + bt386.1), bt398.2.1, bt398.2.2)))) else (if (wrap64 (1 + bt376.1)) = 3 then ((spec_l5Name.f s0_0 bt386.2.1 bt386.2.2 2).bind fun bt401 => ((spec_l1Below.f s0_0 bt401.2.1 bt401.2.2 4).bind fun bt404 => (some (wrap64 (1 + bt376.1), bt401.1, bt404.1, bt379.1, bt382.1, wrap64 (bt382.1 + bt386.1), bt404.2.1, bt404.2.2)))) else ((spec_l5Name.f s0_0 bt386.2.1 bt386.2.2 3).bind fun bt407 => ((spec_l1Below.f s0_0 bt407.2.1 bt407.2.2 4).bind fun bt410 => (some (wrap64 (1 + bt376.1), bt407.1, bt410.1, bt379.1, bt382.1, wrap64 (bt382.1 + bt386.1), bt410.2.1, bt410.2.2))))))))))
theorem z121_0 {Q : Prop} (g : Q := by repeat (first | (with_reducible first | exact HK.out | apply KeepBut.set_ | apply keep_drewN | apply keep_drew | apply keep_alloc | refine keep_far ?_ GW375.out _) | exact HK.out)) : Q := g
theorem z121_1 {Q : Prop} (g : Q := by repeat (first | (with_reducible first | exact HK.out | apply KeepBut.set_ | apply keep_drewN | apply keep_drew | apply keep_alloc | refine keep_far ?_ GW375.out _ | refine keep_far ?_ GW385.out _) | exact HK.out)) : Q := g
theorem z121_2 {Q : Prop} (g : Q := by rw [hg]; exact (keep_size (w := w) (g := g) (row := none) z121_0)) : Q := g
theorem z121_3 {Q : Prop} (g : Q := by rw [hg]; exact (keep_size (w := w) (g := g) (row := none) sqp)) : Q := g
theorem z121_4 {Q : Prop} (g : Q := by rw [hg]; exact Nat.ne_of_lt (IsS125.lt (show IsS125 w0 _ g s0_0 t383 t384 from sqi))) : Q := g
theorem z121_5 {Q : Prop} (g : Q := by rw [hg]; exact Nat.ne_of_lt (IsS125.lt (show IsS125 w0 _ g s0_0 s0_1 s0_2 from sqi))) : Q := g
theorem z121_6 {Q : Prop} (g : Q := by rw [hg]; exact Nat.ne_of_gt (IsS125.lt (show IsS125 w0 _ g s0_0 t383 t384 from sqi))) : Q := g
theorem z121_7 {Q : Prop} (g : Q := by rw [hg]; exact Nat.ne_of_gt (IsS125.lt (show IsS125 w0 _ g s0_0 s0_1 s0_2 from sqi))) : Q := g
set_option maxHeartbeats 8000000 in
set_option maxRecDepth 100000 in
theorem spec_l6Fact.calls (g : Nat) (s0_0 : List Int) (s0_1 : Int) (s0_2 : Int) (r1 : Int) (r2 : Int) (r3 : Int) (r4 : Int) (r5 : Int) (r6 : Int) (r7 : Int) (r8 : Int) (w0 w : World) (hI : IsS125 w0 w g s0_0 s0_1 s0_2) (hB : Below w0.heap.size w0 w) (h : spec_l6Fact.f s0_0 s0_1 s0_2 = some (r1, r2, r3, r4, r5, r6, r7, r8)) :
  Calls Try.prog 121 #[.pointer (some ⟨g, 0, none⟩)] w fun e w' => e = .returned (.agg #[.int .i64 r1, .int .i64 r2, .int .i64 r3, .int .i64 r4, .int .i64 r5, .int .i64 r6]) ∧ IsS125 w0 w' g s0_0 r7 r8 ∧ Below w0.heap.size w0 w' ∧ KeepBut w w' g none := by
 have hu55 := Try.underlying55
 have HI0 := As_.mk hI
 have HK := As_.mk (KeepBut.refl w g none)
 have HL := As_.mk hB.size
 clear hI
 have HW0 := As_.mk hB.size
 have HB := As_.mk hB
 clear hB
 have H : ((spec_l1Below.f s0_0 s0_1 s0_2 4).bind fun bt376 => ((spec_l1Below.f s0_0 bt376.2.1 bt376.2.2 3).bind fun bt379 => ((spec_l1Below.f s0_0 bt379.2.1 bt379.2.2 20).bind fun bt382 => ((spec_l1Below.f s0_0 bt382.2.1 bt382.2.2 30).bind fun bt386 => (if (wrap64 (1 + bt376.1)) = 1 then ((spec_l5Name.f s0_0 bt386.2.1 bt386.2.2 1).bind fun bt389 => ((spec_l1Below.f s0_0 bt389.2.1 bt389.2.2 4).bind fun bt392 => (some (wrap64 (1 + bt376.1), bt389.1, bt392.1, bt379.1, bt382.1, wrap64 (bt382.1 + bt386.1), bt392.2.1, bt392.2.2)))) else (if (wrap64 (1 + bt376.1)) = 2 then ((spec_l5Name.f s0_0 bt386.2.1 bt386.2.2 1).bind fun bt395 => ((spec_l5Name.f s0_0 bt395.2.1 bt395.2.2 2).bind fun bt398 => (some (wrap64 (1 + bt376.1), bt395.1, bt398.1, bt379.1, bt382.1, wrap64 (bt382.1 + bt386.1), bt398.2.1, bt398.2.2)))) else (if (wrap64 (1 + bt376.1)) = 3 then ((spec_l5Name.f s0_0 bt386.2.1 bt386.2.2 2).bind fun bt401 => ((spec_l1Below.f s0_0 bt401.2.1 bt401.2.2 4).bind fun bt404 => (some (wrap64 (1 + bt376.1), bt401.1, bt404.1, bt379.1, bt382.1, wrap64 (bt382.1 + bt386.1), bt404.2.1, bt404.2.2)))) else ((spec_l5Name.f s0_0 bt386.2.1 bt386.2.2 3).bind fun bt407 => ((spec_l1Below.f s0_0 bt407.2.1 bt407.2.2 4).bind fun bt410 => (some (wrap64 (1 + bt376.1), bt407.1, bt410.1, bt379.1, bt382.1, wrap64 (bt382.1 + bt386.1), bt410.2.1, bt410.2.2))))))))))) = some (r1, r2, r3, r4, r5, r6, r7, r8) := h
 clear h
 obtain ⟨⟨t376, t377, t378⟩, A2, H⟩ := bA H
 dsimp only at H
 obtain ⟨⟨t379, t380, t381⟩, A3, H⟩ := bA H
 dsimp only at H
 obtain ⟨⟨t382, t383, t384⟩, A4, H⟩ := bA H
 dsimp only at H
 obtain ⟨⟨t386, t387, t388⟩, A5, H⟩ := bA H
 dsimp only at H
 by_cases c6 : (wrap64 (1 + t376)) = 1
 ·rw [if_pos c6] at H
  have c6b0 : ((wrap64 (1 + t376)) == 1) = true := beq_iff_eq.mpr c6
  have c6b1 : ((wrap64 (1 + t376)) != 1) = false := bne_eq_false_iff_eq.mpr c6
  clear c6
  obtain ⟨⟨t389, t390, t391⟩, A7, H⟩ := bA H
  dsimp only at H
  obtain ⟨⟨t392, t393, t394⟩, A8, H⟩ := bA H
  dsimp only at H
  simp only [Option.some.injEq, Prod.mk.injEq] at H
  obtain ⟨rfl, rfl, rfl, rfl, rfl, rfl, rfl, rfl⟩ := H
  go_enter Try.func121, Try.ntmps121
  try go_wp2_with (first | ((with_reducible refine gate_dst (N := 2) rfl ?_); refine bx (N := 2) (cs := #[.int .i64 0, .int .i64 0, .int .i64 0, .int .i64 0, .int .i64 0, .int .i64 0]) (t := 55) ?_; intro gb375 hg w9 hbox hb; replace HB := As_.mk (below_step sqj hb); have BK375 := As_.mk (hbox); have GW375 := As_.mk ((z121_3 : w.heap.size ≤ gb375)); have GE375 := As_.mk ((Nat.le_trans HW0.out (z121_3 : w.heap.size ≤ gb375) : w0.heap.size ≤ gb375)); replace HK := As_.mk (KeepBut.trans sqp (KeepBut.of_below hb g none) (.inl rfl)); have NB0_375 := As_.mk ((z121_5 : g ≠ gb375)); have NB375_0 := As_.mk ((z121_7 : gb375 ≠ g)); replace HI0 := As_.mk (IsS125.below sqi hb); clear hb hbox hg) | ((with_reducible refine gate_callee (f := 105) rfl ?_); refine goesL_ (some 5) rfl rfl Try.func105 sqk rfl #[.pointer (some ⟨g, 0, none⟩), .int .i64 4] rfl sqm ?_; (with_reducible refine (spec_l1Below.calls g s0_0 s0_1 s0_2 4 t376 t377 t378 w0 _ ?side1 ?side2 A2.out).mono ?_); (case side1 => exact sqi); (case side2 => exact sqj); rintro e w10 ⟨rfl, hi, hb, hk⟩; refine ⟨_, rfl, ?_⟩; replace BK375 := As_.mk (KeepBut.blk hk (g' := gb375) (o := .cells #[.int .i64 0, .int .i64 0, .int .i64 0, .int .i64 0, .int .i64 0, .int .i64 0] 55 (0, 0)) (sqb BK375.out) NB375_0.out (by simp)); replace HK := As_.mk (KeepBut.trans z121_0 hk (.inl rfl)); replace HB := As_.mk (hb); replace HI0 := As_.mk (hi); (try clear hb); (try clear hk); (try clear hi)) | ((with_reducible refine gate_callee (f := 105) rfl ?_); refine goesL_ (some 8) rfl rfl Try.func105 sqk rfl #[.pointer (some ⟨g, 0, none⟩), .int .i64 3] rfl sqm ?_; (with_reducible refine (spec_l1Below.calls g s0_0 t377 t378 3 t379 t380 t381 w0 _ ?side1 ?side2 A3.out).mono ?_); (case side1 => exact sqi); (case side2 => exact sqj); rintro e w11 ⟨rfl, hi, hb, hk⟩; refine ⟨_, rfl, ?_⟩; replace BK375 := As_.mk (KeepBut.blk hk (g' := gb375) (o := .cells #[.int .i64 0, .int .i64 0, .int .i64 0, .int .i64 0, .int .i64 0, .int .i64 0] 55 (0, 0)) (sqb BK375.out) NB375_0.out (by simp)); replace HK := As_.mk (KeepBut.trans z121_0 hk (.inl rfl)); replace HB := As_.mk (hb); replace HI0 := As_.mk (hi); (try clear hb); (try clear hk); (try clear hi)) | ((with_reducible refine gate_callee (f := 105) rfl ?_); refine goesL_ (some 10) rfl rfl Try.func105 sqk rfl #[.pointer (some ⟨g, 0, none⟩), .int .i64 20] rfl sqm ?_; (with_reducible refine (spec_l1Below.calls g s0_0 t380 t381 20 t382 t383 t384 w0 _ ?side1 ?side2 A4.out).mono ?_); (case side1 => exact sqi); (case side2 => exact sqj); rintro e w12 ⟨rfl, hi, hb, hk⟩; refine ⟨_, rfl, ?_⟩; replace BK375 := As_.mk (KeepBut.blk hk (g' := gb375) (o := .cells #[.int .i64 0, .int .i64 0, .int .i64 0, .int .i64 0, .int .i64 0, .int .i64 0] 55 (0, 0)) (sqb BK375.out) NB375_0.out (by simp)); replace HK := As_.mk (KeepBut.trans z121_0 hk (.inl rfl)); replace HB := As_.mk (hb); replace HI0 := As_.mk (hi); (try clear hb); (try clear hk); (try clear hi)) | ((with_reducible refine gate_dst (N := 3) rfl ?_); refine bx (N := 3) (cs := #[.int .i64 0, .int .i64 0, .int .i64 0, .int .i64 0, .int .i64 0, .int .i64 0]) (t := 55) ?_; intro gb385 hg w13 hbox hb; replace HB := As_.mk (below_step sqj hb); have BK385 := As_.mk (hbox); have GW385 := As_.mk ((z121_2 : w.heap.size ≤ gb385)); have GE385 := As_.mk ((Nat.le_trans HW0.out (z121_2 : w.heap.size ≤ gb385) : w0.heap.size ≤ gb385)); replace HK := As_.mk (KeepBut.trans z121_0 (KeepBut.of_below hb g none) (.inl rfl)); have NB375_385 := As_.mk ((by rw [hg]; exact Nat.ne_of_lt (blk_lt (bo BK375)) : gb375 ≠ gb385)); have NB385_375 := As_.mk ((by rw [hg]; exact Nat.ne_of_gt (blk_lt (bo BK375)) : gb385 ≠ gb375)); replace BK375 := As_.mk (blk_below (bo BK375) hb); have NB0_385 := As_.mk ((z121_4 : g ≠ gb385)); have NB385_0 := As_.mk ((z121_6 : gb385 ≠ g)); replace HI0 := As_.mk (IsS125.below sqi hb); clear hb hbox hg; have hnb14 := NB385_375.out; have hnc14 := NB375_385.out; have hnb15 := NB385_0.out; have hnc15 := NB0_385.out; obtain ⟨hcz16_0, hcz16_1, hcz16_2, hcz16_3, hcz16_4, hcz16_5, hfz16_0, hfz16_1, hfz16_2, hfz16_3, hfz16_4, hfz16_5⟩ := sd6 BK385.out))
  have n0_ : As_ (((((((w13.setCell ⟨gb385, 0, none⟩ (.int .i64 (wrap64 (1 + t376)))).setCell ⟨gb385, 1, none⟩ (.int .i64 0)).setCell ⟨gb385, 2, none⟩ (.int .i64 0)).setCell ⟨gb385, 3, none⟩ (.int .i64 t379)).setCell ⟨gb385, 4, none⟩ (.int .i64 t382)).setCell ⟨gb385, 5, none⟩ (.int .i64 0)).heap[gb375]? = some (.cells #[.int .i64 0, .int .i64 0, .int .i64 0, .int .i64 0, .int .i64 0, .int .i64 0] 55 (0, 0))) := ⟨bp BK375⟩
  have n1_ : As_ (((((((w13.setCell ⟨gb385, 0, none⟩ (.int .i64 (wrap64 (1 + t376)))).setCell ⟨gb385, 1, none⟩ (.int .i64 0)).setCell ⟨gb385, 2, none⟩ (.int .i64 0)).setCell ⟨gb385, 3, none⟩ (.int .i64 t379)).setCell ⟨gb385, 4, none⟩ (.int .i64 t382)).setCell ⟨gb385, 5, none⟩ (.int .i64 0)).heap[gb385]? = some (.cells #[.int .i64 (wrap64 (1 + t376)), .int .i64 0, .int .i64 0, .int .i64 t379, .int .i64 t382, .int .i64 0] 55 (0, 0))) := ⟨bp BK385⟩
  have n2_ : As_ (IsS125 w0 ((((((w13.setCell ⟨gb385, 0, none⟩ (.int .i64 (wrap64 (1 + t376)))).setCell ⟨gb385, 1, none⟩ (.int .i64 0)).setCell ⟨gb385, 2, none⟩ (.int .i64 0)).setCell ⟨gb385, 3, none⟩ (.int .i64 t379)).setCell ⟨gb385, 4, none⟩ (.int .i64 t382)).setCell ⟨gb385, 5, none⟩ (.int .i64 0)) g s0_0 t383 t384) := ⟨sqi⟩
  have n3_ : As_ (KeepBut w ((((((w13.setCell ⟨gb385, 0, none⟩ (.int .i64 (wrap64 (1 + t376)))).setCell ⟨gb385, 1, none⟩ (.int .i64 0)).setCell ⟨gb385, 2, none⟩ (.int .i64 0)).setCell ⟨gb385, 3, none⟩ (.int .i64 t379)).setCell ⟨gb385, 4, none⟩ (.int .i64 t382)).setCell ⟨gb385, 5, none⟩ (.int .i64 0)) g none) := ⟨by repeat (first | (with_reducible first | exact HK.out | apply KeepBut.set_ | apply keep_drewN | apply keep_drew | apply keep_alloc | refine keep_far ?_ GW375.out _ | refine keep_far ?_ GW385.out _) | exact HK.out)⟩
  have n4_ : As_ (Below w0.heap.size w0 ((((((w13.setCell ⟨gb385, 0, none⟩ (.int .i64 (wrap64 (1 + t376)))).setCell ⟨gb385, 1, none⟩ (.int .i64 0)).setCell ⟨gb385, 2, none⟩ (.int .i64 0)).setCell ⟨gb385, 3, none⟩ (.int .i64 t379)).setCell ⟨gb385, 4, none⟩ (.int .i64 t382)).setCell ⟨gb385, 5, none⟩ (.int .i64 0))) := ⟨sqj⟩
  (try clear BK375)
  (try clear BK385)
  (try clear HI0)
  (try clear HK)
  (try clear HB)
  generalize ((((((w13.setCell ⟨gb385, 0, none⟩ (.int .i64 (wrap64 (1 + t376)))).setCell ⟨gb385, 1, none⟩ (.int .i64 0)).setCell ⟨gb385, 2, none⟩ (.int .i64 0)).setCell ⟨gb385, 3, none⟩ (.int .i64 t379)).setCell ⟨gb385, 4, none⟩ (.int .i64 t382)).setCell ⟨gb385, 5, none⟩ (.int .i64 0)) = w17 at n0_ n1_ n2_ n3_ n4_ ⊢
  have BK375 := n0_
  have BK385 := n1_
  have HI0 := n2_
  have HK := n3_
  have HB := n4_
  clear n0_ n1_ n2_ n3_ n4_
  replace BK375 := As_.mk (blk_drew BK375.out)
  replace BK385 := As_.mk (blk_drew BK385.out)
  replace HI0 := As_.mk (IsS125.drew HI0.out)
  replace HK := As_.mk (keep_drew HK.out)
  replace HB := As_.mk (bD_ HB.out)
  refine start_ (n := 7) (S := fun w' => w'.cell? ⟨gb385, 0, none⟩ = some (.int .i64 (wrap64 (1 + t376))) ∧ w'.cell? ⟨gb385, 1, none⟩ = some (.int .i64 0) ∧ w'.cell? ⟨gb385, 2, none⟩ = some (.int .i64 0) ∧ w'.cell? ⟨gb385, 3, none⟩ = some (.int .i64 t379) ∧ w'.cell? ⟨gb385, 4, none⟩ = some (.int .i64 t382) ∧ w'.cell? ⟨gb385, 5, none⟩ = some (.int .i64 0)) (ds := [6]) #[false, false, false, false, false, false, false] sqk rfl rfl (sc6 BK385.out) (fun hHeld => ?_)
  generalize w17.drew = w18 at BK375 BK385 HI0 HK HB hHeld ⊢
  refine pu 0 12 ?_; refine pu 2 14 ?_; refine ta 1 13 ?_
  refine on 3 (some 15) (fun K hK => ?_)
  refine goes_ Try.func105 sqk rfl #[.pointer (some ⟨g, 0, none⟩), .int .i64 30] (by rfl) rfl rfl sqm ?_
  with_reducible refine (spec_l1Below.calls g s0_0 t383 t384 30 t386 t387 t388 w0 _ ?side1 ?side2 A5.out).mono ?_
  (case side1 => exact sqi)
  (case side2 => exact sqj)
  rintro e w19 ⟨rfl, hi, hb, hk⟩
  refine ⟨_, rfl, ?_⟩
  replace BK375 := As_.mk (KeepBut.blk hk (g' := gb375) (o := .cells #[.int .i64 0, .int .i64 0, .int .i64 0, .int .i64 0, .int .i64 0, .int .i64 0] 55 (0, 0)) (sqb BK375.out) NB375_0.out (by simp))
  replace BK385 := As_.mk (KeepBut.blk hk (g' := gb385) (o := .cells #[.int .i64 (wrap64 (1 + t376)), .int .i64 0, .int .i64 0, .int .i64 t379, .int .i64 t382, .int .i64 0] 55 (0, 0)) (sqb BK385.out) NB385_0.out (by simp))
  replace HK := As_.mk (KeepBut.trans z121_1 hk (.inl rfl))
  replace HB := As_.mk (hb)
  replace HI0 := As_.mk (hi)
  (try clear hb)
  (try clear hb2)
  (try clear hk)
  (try clear hi)
  refine hK.out _ _ (sc6 BK385.out) (fun hHeld => ?_)
  clear hK K; refine no 15 ?_; refine pu 4 16 ?_; refine pu 5 17 ?_
  refine last_ (i := 6) (N := none) #[true, true, true, true, true, true, true] rfl rfl sqk (by decide) (fun K hK => ?_)
  have hs20 : w19.cell? ⟨gb385, 5, none⟩ = some (.int .i64 0) := (bC_ BK385.out 5).trans rfl
  have hfs20 := bF_ BK385.out 5
  have hns20_0 := NB375_385.out
  have hms20_0 := NB385_375.out
  refine skip_ (w1 := ?_) (by rfl) rfl ?_ ?_
  rotate_left
  ·go_simp
   rfl
  refine hK.out _ _ ?_
  clear hK K
  refine dn ?_
  obtain ⟨hcz21_0, hcz21_1, hcz21_2, hcz21_3, hcz21_4, hcz21_5, hfz21_0, hfz21_1, hfz21_2, hfz21_3, hfz21_4, hfz21_5⟩ := sd6 BK385.out
  try go_wp2_with (first | ((with_reducible refine gate_callee (f := 132) rfl ?_); refine goesL_ (some 29) rfl rfl Try.func132 sqk rfl #[.pointer (some ⟨g, 0, none⟩), .int .i64 1] rfl sqm ?_; (with_reducible refine (spec_l5Name.calls g s0_0 t387 t388 1 t389 t390 t391 w0 _ ?side1 ?side2 A7.out).mono ?_); (case side1 => exact sqi); (case side2 => exact sqj); rintro e w22 ⟨rfl, hi, hb, hk⟩; refine ⟨_, rfl, ?_⟩; replace BK375 := As_.mk (KeepBut.blk hk (g' := gb375) (o := .cells #[.int .i64 0, .int .i64 0, .int .i64 0, .int .i64 0, .int .i64 0, .int .i64 0] 55 (0, 0)) (bp BK375) NB375_0.out (by simp)); replace BK385 := As_.mk (KeepBut.blk hk (g' := gb385) (o := .cells #[.int .i64 (wrap64 (1 + t376)), .int .i64 0, .int .i64 0, .int .i64 t379, .int .i64 t382, .int .i64 (wrap64 (t382 + t386))] 55 (0, 0)) (bp BK385) NB385_0.out (by simp)); replace HK := As_.mk (KeepBut.trans z121_1 hk (.inl rfl)); replace HB := As_.mk (hb); replace HI0 := As_.mk (hi); (try clear hb); (try clear hk); (try clear hi); obtain ⟨hcz23_0, hcz23_1, hcz23_2, hcz23_3, hcz23_4, hcz23_5, hfz23_0, hfz23_1, hfz23_2, hfz23_3, hfz23_4, hfz23_5⟩ := sd6 BK385.out) | ((with_reducible refine gate_callee (f := 105) rfl ?_); refine goesL_ (some 32) rfl rfl Try.func105 sqk rfl #[.pointer (some ⟨g, 0, none⟩), .int .i64 4] rfl sqm ?_; (with_reducible refine (spec_l1Below.calls g s0_0 t390 t391 4 t392 t393 t394 w0 _ ?side1 ?side2 A8.out).mono ?_); (case side1 => exact sqi); (case side2 => exact sqj); rintro e w24 ⟨rfl, hi, hb, hk⟩; refine ⟨_, rfl, ?_⟩; replace BK375 := As_.mk (KeepBut.blk hk (g' := gb375) (o := .cells #[.int .i64 0, .int .i64 0, .int .i64 0, .int .i64 0, .int .i64 0, .int .i64 0] 55 (0, 0)) (bp BK375) NB375_0.out (by simp)); replace BK385 := As_.mk (KeepBut.blk hk (g' := gb385) (o := .cells #[.int .i64 (wrap64 (1 + t376)), .int .i64 t389, .int .i64 0, .int .i64 t379, .int .i64 t382, .int .i64 (wrap64 (t382 + t386))] 55 (0, 0)) (bp BK385) NB385_0.out (by simp)); replace HK := As_.mk (KeepBut.trans z121_1 hk (.inl rfl)); replace HB := As_.mk (hb); replace HI0 := As_.mk (hi); (try clear hb); (try clear hk); (try clear hi); obtain ⟨hcz25_0, hcz25_1, hcz25_2, hcz25_3, hcz25_4, hcz25_5, hfz25_0, hfz25_1, hfz25_2, hfz25_3, hfz25_4, hfz25_5⟩ := sd6 BK385.out; have hnb26 := NB375_0.out; have hnc26 := NB0_375.out; obtain ⟨hcz27_0, hcz27_1, hcz27_2, hcz27_3, hcz27_4, hcz27_5, hfz27_0, hfz27_1, hfz27_2, hfz27_3, hfz27_4, hfz27_5⟩ := sd6 BK375.out))
  refine bodyPost_ret (results_cell_row rfl _ _ gb375 55 #[.int .i64 (wrap64 (1 + t376)), .int .i64 t389, .int .i64 t392, .int .i64 t379, .int .i64 t382, .int .i64 (wrap64 (t382 + t386))] (0, 0) _ rfl ?_ Try.underlying55 rfl sqk) rfl ?_; exact bp BK375
  exact ⟨sqe, sqi, sqj, by repeat (first | (with_reducible first | exact HK.out | apply KeepBut.set_ | apply keep_drewN | apply keep_drew | apply keep_alloc | refine keep_far ?_ GW375.out _ | refine keep_far ?_ GW385.out _) | exact HK.out)⟩
 ·rw [if_neg c6] at H
  have c6b0 : ((wrap64 (1 + t376)) == 1) = false := beq_eq_false_iff_ne.mpr c6
  have c6b1 : ((wrap64 (1 + t376)) != 1) = true := bne_iff_ne.mpr c6
  by_cases c28 : (wrap64 (1 + t376)) = 2
  ·rw [if_pos c28] at H
   have c28b0 : ((wrap64 (1 + t376)) == 2) = true := beq_iff_eq.mpr c28
   have c28b1 : ((wrap64 (1 + t376)) != 2) = false := bne_eq_false_iff_eq.mpr c28
   clear c28
   obtain ⟨⟨t395, t396, t397⟩, A29, H⟩ := bA H
   dsimp only at H
   obtain ⟨⟨t398, t399, t400⟩, A30, H⟩ := bA H
   dsimp only at H
   simp only [Option.some.injEq, Prod.mk.injEq] at H
   obtain ⟨rfl, rfl, rfl, rfl, rfl, rfl, rfl, rfl⟩ := H
   go_enter Try.func121, Try.ntmps121
   try go_wp2_with (first | ((with_reducible refine gate_dst (N := 2) rfl ?_); refine bx (N := 2) (cs := #[.int .i64 0, .int .i64 0, .int .i64 0, .int .i64 0, .int .i64 0, .int .i64 0]) (t := 55) ?_; intro gb375 hg w31 hbox hb; replace HB := As_.mk (below_step sqj hb); have BK375 := As_.mk (hbox); have GW375 := As_.mk ((z121_3 : w.heap.size ≤ gb375)); have GE375 := As_.mk ((Nat.le_trans HW0.out (z121_3 : w.heap.size ≤ gb375) : w0.heap.size ≤ gb375)); replace HK := As_.mk (KeepBut.trans sqp (KeepBut.of_below hb g none) (.inl rfl)); have NB0_375 := As_.mk ((z121_5 : g ≠ gb375)); have NB375_0 := As_.mk ((z121_7 : gb375 ≠ g)); replace HI0 := As_.mk (IsS125.below sqi hb); clear hb hbox hg) | ((with_reducible refine gate_callee (f := 105) rfl ?_); refine goesL_ (some 5) rfl rfl Try.func105 sqk rfl #[.pointer (some ⟨g, 0, none⟩), .int .i64 4] rfl sqm ?_; (with_reducible refine (spec_l1Below.calls g s0_0 s0_1 s0_2 4 t376 t377 t378 w0 _ ?side1 ?side2 A2.out).mono ?_); (case side1 => exact sqi); (case side2 => exact sqj); rintro e w32 ⟨rfl, hi, hb, hk⟩; refine ⟨_, rfl, ?_⟩; replace BK375 := As_.mk (KeepBut.blk hk (g' := gb375) (o := .cells #[.int .i64 0, .int .i64 0, .int .i64 0, .int .i64 0, .int .i64 0, .int .i64 0] 55 (0, 0)) (sqb BK375.out) NB375_0.out (by simp)); replace HK := As_.mk (KeepBut.trans z121_0 hk (.inl rfl)); replace HB := As_.mk (hb); replace HI0 := As_.mk (hi); (try clear hb); (try clear hk); (try clear hi)) | ((with_reducible refine gate_callee (f := 105) rfl ?_); refine goesL_ (some 8) rfl rfl Try.func105 sqk rfl #[.pointer (some ⟨g, 0, none⟩), .int .i64 3] rfl sqm ?_; (with_reducible refine (spec_l1Below.calls g s0_0 t377 t378 3 t379 t380 t381 w0 _ ?side1 ?side2 A3.out).mono ?_); (case side1 => exact sqi); (case side2 => exact sqj); rintro e w33 ⟨rfl, hi, hb, hk⟩; refine ⟨_, rfl, ?_⟩; replace BK375 := As_.mk (KeepBut.blk hk (g' := gb375) (o := .cells #[.int .i64 0, .int .i64 0, .int .i64 0, .int .i64 0, .int .i64 0, .int .i64 0] 55 (0, 0)) (sqb BK375.out) NB375_0.out (by simp)); replace HK := As_.mk (KeepBut.trans z121_0 hk (.inl rfl)); replace HB := As_.mk (hb); replace HI0 := As_.mk (hi); (try clear hb); (try clear hk); (try clear hi)) | ((with_reducible refine gate_callee (f := 105) rfl ?_); refine goesL_ (some 10) rfl rfl Try.func105 sqk rfl #[.pointer (some ⟨g, 0, none⟩), .int .i64 20] rfl sqm ?_; (with_reducible refine (spec_l1Below.calls g s0_0 t380 t381 20 t382 t383 t384 w0 _ ?side1 ?side2 A4.out).mono ?_); (case side1 => exact sqi); (case side2 => exact sqj); rintro e w34 ⟨rfl, hi, hb, hk⟩; refine ⟨_, rfl, ?_⟩; replace BK375 := As_.mk (KeepBut.blk hk (g' := gb375) (o := .cells #[.int .i64 0, .int .i64 0, .int .i64 0, .int .i64 0, .int .i64 0, .int .i64 0] 55 (0, 0)) (sqb BK375.out) NB375_0.out (by simp)); replace HK := As_.mk (KeepBut.trans z121_0 hk (.inl rfl)); replace HB := As_.mk (hb); replace HI0 := As_.mk (hi); (try clear hb); (try clear hk); (try clear hi)) | ((with_reducible refine gate_dst (N := 3) rfl ?_); refine bx (N := 3) (cs := #[.int .i64 0, .int .i64 0, .int .i64 0, .int .i64 0, .int .i64 0, .int .i64 0]) (t := 55) ?_; intro gb385 hg w35 hbox hb; replace HB := As_.mk (below_step sqj hb); have BK385 := As_.mk (hbox); have GW385 := As_.mk ((z121_2 : w.heap.size ≤ gb385)); have GE385 := As_.mk ((Nat.le_trans HW0.out (z121_2 : w.heap.size ≤ gb385) : w0.heap.size ≤ gb385)); replace HK := As_.mk (KeepBut.trans z121_0 (KeepBut.of_below hb g none) (.inl rfl)); have NB375_385 := As_.mk ((by rw [hg]; exact Nat.ne_of_lt (blk_lt (bo BK375)) : gb375 ≠ gb385)); have NB385_375 := As_.mk ((by rw [hg]; exact Nat.ne_of_gt (blk_lt (bo BK375)) : gb385 ≠ gb375)); replace BK375 := As_.mk (blk_below (bo BK375) hb); have NB0_385 := As_.mk ((z121_4 : g ≠ gb385)); have NB385_0 := As_.mk ((z121_6 : gb385 ≠ g)); replace HI0 := As_.mk (IsS125.below sqi hb); clear hb hbox hg; have hnb36 := NB385_375.out; have hnc36 := NB375_385.out; have hnb37 := NB385_0.out; have hnc37 := NB0_385.out; obtain ⟨hcz38_0, hcz38_1, hcz38_2, hcz38_3, hcz38_4, hcz38_5, hfz38_0, hfz38_1, hfz38_2, hfz38_3, hfz38_4, hfz38_5⟩ := sd6 BK385.out))
   have n0_ : As_ (((((((w35.setCell ⟨gb385, 0, none⟩ (.int .i64 (wrap64 (1 + t376)))).setCell ⟨gb385, 1, none⟩ (.int .i64 0)).setCell ⟨gb385, 2, none⟩ (.int .i64 0)).setCell ⟨gb385, 3, none⟩ (.int .i64 t379)).setCell ⟨gb385, 4, none⟩ (.int .i64 t382)).setCell ⟨gb385, 5, none⟩ (.int .i64 0)).heap[gb375]? = some (.cells #[.int .i64 0, .int .i64 0, .int .i64 0, .int .i64 0, .int .i64 0, .int .i64 0] 55 (0, 0))) := ⟨bp BK375⟩
   have n1_ : As_ (((((((w35.setCell ⟨gb385, 0, none⟩ (.int .i64 (wrap64 (1 + t376)))).setCell ⟨gb385, 1, none⟩ (.int .i64 0)).setCell ⟨gb385, 2, none⟩ (.int .i64 0)).setCell ⟨gb385, 3, none⟩ (.int .i64 t379)).setCell ⟨gb385, 4, none⟩ (.int .i64 t382)).setCell ⟨gb385, 5, none⟩ (.int .i64 0)).heap[gb385]? = some (.cells #[.int .i64 (wrap64 (1 + t376)), .int .i64 0, .int .i64 0, .int .i64 t379, .int .i64 t382, .int .i64 0] 55 (0, 0))) := ⟨bp BK385⟩
   have n2_ : As_ (IsS125 w0 ((((((w35.setCell ⟨gb385, 0, none⟩ (.int .i64 (wrap64 (1 + t376)))).setCell ⟨gb385, 1, none⟩ (.int .i64 0)).setCell ⟨gb385, 2, none⟩ (.int .i64 0)).setCell ⟨gb385, 3, none⟩ (.int .i64 t379)).setCell ⟨gb385, 4, none⟩ (.int .i64 t382)).setCell ⟨gb385, 5, none⟩ (.int .i64 0)) g s0_0 t383 t384) := ⟨sqi⟩
   have n3_ : As_ (KeepBut w ((((((w35.setCell ⟨gb385, 0, none⟩ (.int .i64 (wrap64 (1 + t376)))).setCell ⟨gb385, 1, none⟩ (.int .i64 0)).setCell ⟨gb385, 2, none⟩ (.int .i64 0)).setCell ⟨gb385, 3, none⟩ (.int .i64 t379)).setCell ⟨gb385, 4, none⟩ (.int .i64 t382)).setCell ⟨gb385, 5, none⟩ (.int .i64 0)) g none) := ⟨by repeat (first | (with_reducible first | exact HK.out | apply KeepBut.set_ | apply keep_drewN | apply keep_drew | apply keep_alloc | refine keep_far ?_ GW375.out _ | refine keep_far ?_ GW385.out _) | exact HK.out)⟩
   have n4_ : As_ (Below w0.heap.size w0 ((((((w35.setCell ⟨gb385, 0, none⟩ (.int .i64 (wrap64 (1 + t376)))).setCell ⟨gb385, 1, none⟩ (.int .i64 0)).setCell ⟨gb385, 2, none⟩ (.int .i64 0)).setCell ⟨gb385, 3, none⟩ (.int .i64 t379)).setCell ⟨gb385, 4, none⟩ (.int .i64 t382)).setCell ⟨gb385, 5, none⟩ (.int .i64 0))) := ⟨sqj⟩
   (try clear BK375)
   (try clear BK385)
   (try clear HI0)
   (try clear HK)
   (try clear HB)
   generalize ((((((w35.setCell ⟨gb385, 0, none⟩ (.int .i64 (wrap64 (1 + t376)))).setCell ⟨gb385, 1, none⟩ (.int .i64 0)).setCell ⟨gb385, 2, none⟩ (.int .i64 0)).setCell ⟨gb385, 3, none⟩ (.int .i64 t379)).setCell ⟨gb385, 4, none⟩ (.int .i64 t382)).setCell ⟨gb385, 5, none⟩ (.int .i64 0)) = w39 at n0_ n1_ n2_ n3_ n4_ ⊢
   have BK375 := n0_
   have BK385 := n1_
   have HI0 := n2_
   have HK := n3_
   have HB := n4_
   clear n0_ n1_ n2_ n3_ n4_
   replace BK375 := As_.mk (blk_drew BK375.out)
   replace BK385 := As_.mk (blk_drew BK385.out)
   replace HI0 := As_.mk (IsS125.drew HI0.out)
   replace HK := As_.mk (keep_drew HK.out)
   replace HB := As_.mk (bD_ HB.out)
   refine start_ (n := 7) (S := fun w' => w'.cell? ⟨gb385, 0, none⟩ = some (.int .i64 (wrap64 (1 + t376))) ∧ w'.cell? ⟨gb385, 1, none⟩ = some (.int .i64 0) ∧ w'.cell? ⟨gb385, 2, none⟩ = some (.int .i64 0) ∧ w'.cell? ⟨gb385, 3, none⟩ = some (.int .i64 t379) ∧ w'.cell? ⟨gb385, 4, none⟩ = some (.int .i64 t382) ∧ w'.cell? ⟨gb385, 5, none⟩ = some (.int .i64 0)) (ds := [6]) #[false, false, false, false, false, false, false] sqk rfl rfl (sc6 BK385.out) (fun hHeld => ?_)
   generalize w39.drew = w40 at BK375 BK385 HI0 HK HB hHeld ⊢
   refine pu 0 12 ?_; refine pu 2 14 ?_; refine ta 1 13 ?_
   refine on 3 (some 15) (fun K hK => ?_)
   refine goes_ Try.func105 sqk rfl #[.pointer (some ⟨g, 0, none⟩), .int .i64 30] (by rfl) rfl rfl sqm ?_
   with_reducible refine (spec_l1Below.calls g s0_0 t383 t384 30 t386 t387 t388 w0 _ ?side1 ?side2 A5.out).mono ?_
   (case side1 => exact sqi)
   (case side2 => exact sqj)
   rintro e w41 ⟨rfl, hi, hb, hk⟩
   refine ⟨_, rfl, ?_⟩
   replace BK375 := As_.mk (KeepBut.blk hk (g' := gb375) (o := .cells #[.int .i64 0, .int .i64 0, .int .i64 0, .int .i64 0, .int .i64 0, .int .i64 0] 55 (0, 0)) (sqb BK375.out) NB375_0.out (by simp))
   replace BK385 := As_.mk (KeepBut.blk hk (g' := gb385) (o := .cells #[.int .i64 (wrap64 (1 + t376)), .int .i64 0, .int .i64 0, .int .i64 t379, .int .i64 t382, .int .i64 0] 55 (0, 0)) (sqb BK385.out) NB385_0.out (by simp))
   replace HK := As_.mk (KeepBut.trans z121_1 hk (.inl rfl))
   replace HB := As_.mk (hb)
   replace HI0 := As_.mk (hi)
   (try clear hb)
   (try clear hb2)
   (try clear hk)
   (try clear hi)
   refine hK.out _ _ (sc6 BK385.out) (fun hHeld => ?_)
   clear hK K; refine no 15 ?_; refine pu 4 16 ?_; refine pu 5 17 ?_
   refine last_ (i := 6) (N := none) #[true, true, true, true, true, true, true] rfl rfl sqk (by decide) (fun K hK => ?_)
   have hs42 : w41.cell? ⟨gb385, 5, none⟩ = some (.int .i64 0) := (bC_ BK385.out 5).trans rfl
   have hfs42 := bF_ BK385.out 5
   have hns42_0 := NB375_385.out
   have hms42_0 := NB385_375.out
   refine skip_ (w1 := ?_) (by rfl) rfl ?_ ?_
   rotate_left
   ·go_simp
    rfl
   refine hK.out _ _ ?_
   clear hK K
   refine dn ?_
   obtain ⟨hcz43_0, hcz43_1, hcz43_2, hcz43_3, hcz43_4, hcz43_5, hfz43_0, hfz43_1, hfz43_2, hfz43_3, hfz43_4, hfz43_5⟩ := sd6 BK385.out
   try go_wp2_with (first | ((with_reducible refine gate_callee (f := 132) rfl ?_); refine goesL_ (some 37) rfl rfl Try.func132 sqk rfl #[.pointer (some ⟨g, 0, none⟩), .int .i64 1] rfl sqm ?_; (with_reducible refine (spec_l5Name.calls g s0_0 t387 t388 1 t395 t396 t397 w0 _ ?side1 ?side2 A29.out).mono ?_); (case side1 => exact sqi); (case side2 => exact sqj); rintro e w44 ⟨rfl, hi, hb, hk⟩; refine ⟨_, rfl, ?_⟩; replace BK375 := As_.mk (KeepBut.blk hk (g' := gb375) (o := .cells #[.int .i64 0, .int .i64 0, .int .i64 0, .int .i64 0, .int .i64 0, .int .i64 0] 55 (0, 0)) (bp BK375) NB375_0.out (by simp)); replace BK385 := As_.mk (KeepBut.blk hk (g' := gb385) (o := .cells #[.int .i64 (wrap64 (1 + t376)), .int .i64 0, .int .i64 0, .int .i64 t379, .int .i64 t382, .int .i64 (wrap64 (t382 + t386))] 55 (0, 0)) (bp BK385) NB385_0.out (by simp)); replace HK := As_.mk (KeepBut.trans z121_1 hk (.inl rfl)); replace HB := As_.mk (hb); replace HI0 := As_.mk (hi); (try clear hb); (try clear hk); (try clear hi); obtain ⟨hcz45_0, hcz45_1, hcz45_2, hcz45_3, hcz45_4, hcz45_5, hfz45_0, hfz45_1, hfz45_2, hfz45_3, hfz45_4, hfz45_5⟩ := sd6 BK385.out) | ((with_reducible refine gate_callee (f := 132) rfl ?_); refine goesL_ (some 40) rfl rfl Try.func132 sqk rfl #[.pointer (some ⟨g, 0, none⟩), .int .i64 2] rfl sqm ?_; (with_reducible refine (spec_l5Name.calls g s0_0 t396 t397 2 t398 t399 t400 w0 _ ?side1 ?side2 A30.out).mono ?_); (case side1 => exact sqi); (case side2 => exact sqj); rintro e w46 ⟨rfl, hi, hb, hk⟩; refine ⟨_, rfl, ?_⟩; replace BK375 := As_.mk (KeepBut.blk hk (g' := gb375) (o := .cells #[.int .i64 0, .int .i64 0, .int .i64 0, .int .i64 0, .int .i64 0, .int .i64 0] 55 (0, 0)) (bp BK375) NB375_0.out (by simp)); replace BK385 := As_.mk (KeepBut.blk hk (g' := gb385) (o := .cells #[.int .i64 (wrap64 (1 + t376)), .int .i64 t395, .int .i64 0, .int .i64 t379, .int .i64 t382, .int .i64 (wrap64 (t382 + t386))] 55 (0, 0)) (bp BK385) NB385_0.out (by simp)); replace HK := As_.mk (KeepBut.trans z121_1 hk (.inl rfl)); replace HB := As_.mk (hb); replace HI0 := As_.mk (hi); (try clear hb); (try clear hk); (try clear hi); obtain ⟨hcz47_0, hcz47_1, hcz47_2, hcz47_3, hcz47_4, hcz47_5, hfz47_0, hfz47_1, hfz47_2, hfz47_3, hfz47_4, hfz47_5⟩ := sd6 BK385.out; have hnb48 := NB375_0.out; have hnc48 := NB0_375.out; obtain ⟨hcz49_0, hcz49_1, hcz49_2, hcz49_3, hcz49_4, hcz49_5, hfz49_0, hfz49_1, hfz49_2, hfz49_3, hfz49_4, hfz49_5⟩ := sd6 BK375.out))
   refine bodyPost_ret (results_cell_row rfl _ _ gb375 55 #[.int .i64 (wrap64 (1 + t376)), .int .i64 t395, .int .i64 t398, .int .i64 t379, .int .i64 t382, .int .i64 (wrap64 (t382 + t386))] (0, 0) _ rfl ?_ Try.underlying55 rfl sqk) rfl ?_; exact bp BK375
   exact ⟨sqe, sqi, sqj, by repeat (first | (with_reducible first | exact HK.out | apply KeepBut.set_ | apply keep_drewN | apply keep_drew | apply keep_alloc | refine keep_far ?_ GW375.out _ | refine keep_far ?_ GW385.out _) | exact HK.out)⟩
  ·rw [if_neg c28] at H
   have c28b0 : ((wrap64 (1 + t376)) == 2) = false := beq_eq_false_iff_ne.mpr c28
   have c28b1 : ((wrap64 (1 + t376)) != 2) = true := bne_iff_ne.mpr c28
   by_cases c50 : (wrap64 (1 + t376)) = 3
   ·rw [if_pos c50] at H
    have c50b0 : ((wrap64 (1 + t376)) == 3) = true := beq_iff_eq.mpr c50
    have c50b1 : ((wrap64 (1 + t376)) != 3) = false := bne_eq_false_iff_eq.mpr c50
    clear c50
    obtain ⟨⟨t401, t402, t403⟩, A51, H⟩ := bA H
    dsimp only at H
    obtain ⟨⟨t404, t405, t406⟩, A52, H⟩ := bA H
    dsimp only at H
    simp only [Option.some.injEq, Prod.mk.injEq] at H
    obtain ⟨rfl, rfl, rfl, rfl, rfl, rfl, rfl, rfl⟩ := H
    go_enter Try.func121, Try.ntmps121
    try go_wp2_with (first | ((with_reducible refine gate_dst (N := 2) rfl ?_); refine bx (N := 2) (cs := #[.int .i64 0, .int .i64 0, .int .i64 0, .int .i64 0, .int .i64 0, .int .i64 0]) (t := 55) ?_; intro gb375 hg w53 hbox hb; replace HB := As_.mk (below_step sqj hb); have BK375 := As_.mk (hbox); have GW375 := As_.mk ((z121_3 : w.heap.size ≤ gb375)); have GE375 := As_.mk ((Nat.le_trans HW0.out (z121_3 : w.heap.size ≤ gb375) : w0.heap.size ≤ gb375)); replace HK := As_.mk (KeepBut.trans sqp (KeepBut.of_below hb g none) (.inl rfl)); have NB0_375 := As_.mk ((z121_5 : g ≠ gb375)); have NB375_0 := As_.mk ((z121_7 : gb375 ≠ g)); replace HI0 := As_.mk (IsS125.below sqi hb); clear hb hbox hg) | ((with_reducible refine gate_callee (f := 105) rfl ?_); refine goesL_ (some 5) rfl rfl Try.func105 sqk rfl #[.pointer (some ⟨g, 0, none⟩), .int .i64 4] rfl sqm ?_; (with_reducible refine (spec_l1Below.calls g s0_0 s0_1 s0_2 4 t376 t377 t378 w0 _ ?side1 ?side2 A2.out).mono ?_); (case side1 => exact sqi); (case side2 => exact sqj); rintro e w54 ⟨rfl, hi, hb, hk⟩; refine ⟨_, rfl, ?_⟩; replace BK375 := As_.mk (KeepBut.blk hk (g' := gb375) (o := .cells #[.int .i64 0, .int .i64 0, .int .i64 0, .int .i64 0, .int .i64 0, .int .i64 0] 55 (0, 0)) (sqb BK375.out) NB375_0.out (by simp)); replace HK := As_.mk (KeepBut.trans z121_0 hk (.inl rfl)); replace HB := As_.mk (hb); replace HI0 := As_.mk (hi); (try clear hb); (try clear hk); (try clear hi)) | ((with_reducible refine gate_callee (f := 105) rfl ?_); refine goesL_ (some 8) rfl rfl Try.func105 sqk rfl #[.pointer (some ⟨g, 0, none⟩), .int .i64 3] rfl sqm ?_; (with_reducible refine (spec_l1Below.calls g s0_0 t377 t378 3 t379 t380 t381 w0 _ ?side1 ?side2 A3.out).mono ?_); (case side1 => exact sqi); (case side2 => exact sqj); rintro e w55 ⟨rfl, hi, hb, hk⟩; refine ⟨_, rfl, ?_⟩; replace BK375 := As_.mk (KeepBut.blk hk (g' := gb375) (o := .cells #[.int .i64 0, .int .i64 0, .int .i64 0, .int .i64 0, .int .i64 0, .int .i64 0] 55 (0, 0)) (sqb BK375.out) NB375_0.out (by simp)); replace HK := As_.mk (KeepBut.trans z121_0 hk (.inl rfl)); replace HB := As_.mk (hb); replace HI0 := As_.mk (hi); (try clear hb); (try clear hk); (try clear hi)) | ((with_reducible refine gate_callee (f := 105) rfl ?_); refine goesL_ (some 10) rfl rfl Try.func105 sqk rfl #[.pointer (some ⟨g, 0, none⟩), .int .i64 20] rfl sqm ?_; (with_reducible refine (spec_l1Below.calls g s0_0 t380 t381 20 t382 t383 t384 w0 _ ?side1 ?side2 A4.out).mono ?_); (case side1 => exact sqi); (case side2 => exact sqj); rintro e w56 ⟨rfl, hi, hb, hk⟩; refine ⟨_, rfl, ?_⟩; replace BK375 := As_.mk (KeepBut.blk hk (g' := gb375) (o := .cells #[.int .i64 0, .int .i64 0, .int .i64 0, .int .i64 0, .int .i64 0, .int .i64 0] 55 (0, 0)) (sqb BK375.out) NB375_0.out (by simp)); replace HK := As_.mk (KeepBut.trans z121_0 hk (.inl rfl)); replace HB := As_.mk (hb); replace HI0 := As_.mk (hi); (try clear hb); (try clear hk); (try clear hi)) | ((with_reducible refine gate_dst (N := 3) rfl ?_); refine bx (N := 3) (cs := #[.int .i64 0, .int .i64 0, .int .i64 0, .int .i64 0, .int .i64 0, .int .i64 0]) (t := 55) ?_; intro gb385 hg w57 hbox hb; replace HB := As_.mk (below_step sqj hb); have BK385 := As_.mk (hbox); have GW385 := As_.mk ((z121_2 : w.heap.size ≤ gb385)); have GE385 := As_.mk ((Nat.le_trans HW0.out (z121_2 : w.heap.size ≤ gb385) : w0.heap.size ≤ gb385)); replace HK := As_.mk (KeepBut.trans z121_0 (KeepBut.of_below hb g none) (.inl rfl)); have NB375_385 := As_.mk ((by rw [hg]; exact Nat.ne_of_lt (blk_lt (bo BK375)) : gb375 ≠ gb385)); have NB385_375 := As_.mk ((by rw [hg]; exact Nat.ne_of_gt (blk_lt (bo BK375)) : gb385 ≠ gb375)); replace BK375 := As_.mk (blk_below (bo BK375) hb); have NB0_385 := As_.mk ((z121_4 : g ≠ gb385)); have NB385_0 := As_.mk ((z121_6 : gb385 ≠ g)); replace HI0 := As_.mk (IsS125.below sqi hb); clear hb hbox hg; have hnb58 := NB385_375.out; have hnc58 := NB375_385.out; have hnb59 := NB385_0.out; have hnc59 := NB0_385.out; obtain ⟨hcz60_0, hcz60_1, hcz60_2, hcz60_3, hcz60_4, hcz60_5, hfz60_0, hfz60_1, hfz60_2, hfz60_3, hfz60_4, hfz60_5⟩ := sd6 BK385.out))
    have n0_ : As_ (((((((w57.setCell ⟨gb385, 0, none⟩ (.int .i64 (wrap64 (1 + t376)))).setCell ⟨gb385, 1, none⟩ (.int .i64 0)).setCell ⟨gb385, 2, none⟩ (.int .i64 0)).setCell ⟨gb385, 3, none⟩ (.int .i64 t379)).setCell ⟨gb385, 4, none⟩ (.int .i64 t382)).setCell ⟨gb385, 5, none⟩ (.int .i64 0)).heap[gb375]? = some (.cells #[.int .i64 0, .int .i64 0, .int .i64 0, .int .i64 0, .int .i64 0, .int .i64 0] 55 (0, 0))) := ⟨bp BK375⟩
    have n1_ : As_ (((((((w57.setCell ⟨gb385, 0, none⟩ (.int .i64 (wrap64 (1 + t376)))).setCell ⟨gb385, 1, none⟩ (.int .i64 0)).setCell ⟨gb385, 2, none⟩ (.int .i64 0)).setCell ⟨gb385, 3, none⟩ (.int .i64 t379)).setCell ⟨gb385, 4, none⟩ (.int .i64 t382)).setCell ⟨gb385, 5, none⟩ (.int .i64 0)).heap[gb385]? = some (.cells #[.int .i64 (wrap64 (1 + t376)), .int .i64 0, .int .i64 0, .int .i64 t379, .int .i64 t382, .int .i64 0] 55 (0, 0))) := ⟨bp BK385⟩
    have n2_ : As_ (IsS125 w0 ((((((w57.setCell ⟨gb385, 0, none⟩ (.int .i64 (wrap64 (1 + t376)))).setCell ⟨gb385, 1, none⟩ (.int .i64 0)).setCell ⟨gb385, 2, none⟩ (.int .i64 0)).setCell ⟨gb385, 3, none⟩ (.int .i64 t379)).setCell ⟨gb385, 4, none⟩ (.int .i64 t382)).setCell ⟨gb385, 5, none⟩ (.int .i64 0)) g s0_0 t383 t384) := ⟨sqi⟩
    have n3_ : As_ (KeepBut w ((((((w57.setCell ⟨gb385, 0, none⟩ (.int .i64 (wrap64 (1 + t376)))).setCell ⟨gb385, 1, none⟩ (.int .i64 0)).setCell ⟨gb385, 2, none⟩ (.int .i64 0)).setCell ⟨gb385, 3, none⟩ (.int .i64 t379)).setCell ⟨gb385, 4, none⟩ (.int .i64 t382)).setCell ⟨gb385, 5, none⟩ (.int .i64 0)) g none) := ⟨by repeat (first | (with_reducible first | exact HK.out | apply KeepBut.set_ | apply keep_drewN | apply keep_drew | apply keep_alloc | refine keep_far ?_ GW375.out _ | refine keep_far ?_ GW385.out _) | exact HK.out)⟩
    have n4_ : As_ (Below w0.heap.size w0 ((((((w57.setCell ⟨gb385, 0, none⟩ (.int .i64 (wrap64 (1 + t376)))).setCell ⟨gb385, 1, none⟩ (.int .i64 0)).setCell ⟨gb385, 2, none⟩ (.int .i64 0)).setCell ⟨gb385, 3, none⟩ (.int .i64 t379)).setCell ⟨gb385, 4, none⟩ (.int .i64 t382)).setCell ⟨gb385, 5, none⟩ (.int .i64 0))) := ⟨sqj⟩
    (try clear BK375)
    (try clear BK385)
    (try clear HI0)
    (try clear HK)
    (try clear HB)
    generalize ((((((w57.setCell ⟨gb385, 0, none⟩ (.int .i64 (wrap64 (1 + t376)))).setCell ⟨gb385, 1, none⟩ (.int .i64 0)).setCell ⟨gb385, 2, none⟩ (.int .i64 0)).setCell ⟨gb385, 3, none⟩ (.int .i64 t379)).setCell ⟨gb385, 4, none⟩ (.int .i64 t382)).setCell ⟨gb385, 5, none⟩ (.int .i64 0)) = w61 at n0_ n1_ n2_ n3_ n4_ ⊢
    have BK375 := n0_
    have BK385 := n1_
    have HI0 := n2_
    have HK := n3_
    have HB := n4_
    clear n0_ n1_ n2_ n3_ n4_
    replace BK375 := As_.mk (blk_drew BK375.out)
    replace BK385 := As_.mk (blk_drew BK385.out)
    replace HI0 := As_.mk (IsS125.drew HI0.out)
    replace HK := As_.mk (keep_drew HK.out)
    replace HB := As_.mk (bD_ HB.out)
    refine start_ (n := 7) (S := fun w' => w'.cell? ⟨gb385, 0, none⟩ = some (.int .i64 (wrap64 (1 + t376))) ∧ w'.cell? ⟨gb385, 1, none⟩ = some (.int .i64 0) ∧ w'.cell? ⟨gb385, 2, none⟩ = some (.int .i64 0) ∧ w'.cell? ⟨gb385, 3, none⟩ = some (.int .i64 t379) ∧ w'.cell? ⟨gb385, 4, none⟩ = some (.int .i64 t382) ∧ w'.cell? ⟨gb385, 5, none⟩ = some (.int .i64 0)) (ds := [6]) #[false, false, false, false, false, false, false] sqk rfl rfl (sc6 BK385.out) (fun hHeld => ?_)
    generalize w61.drew = w62 at BK375 BK385 HI0 HK HB hHeld ⊢
    refine pu 0 12 ?_; refine pu 2 14 ?_; refine ta 1 13 ?_
    refine on 3 (some 15) (fun K hK => ?_)
    refine goes_ Try.func105 sqk rfl #[.pointer (some ⟨g, 0, none⟩), .int .i64 30] (by rfl) rfl rfl sqm ?_
    with_reducible refine (spec_l1Below.calls g s0_0 t383 t384 30 t386 t387 t388 w0 _ ?side1 ?side2 A5.out).mono ?_
    (case side1 => exact sqi)
    (case side2 => exact sqj)
    rintro e w63 ⟨rfl, hi, hb, hk⟩
    refine ⟨_, rfl, ?_⟩
    replace BK375 := As_.mk (KeepBut.blk hk (g' := gb375) (o := .cells #[.int .i64 0, .int .i64 0, .int .i64 0, .int .i64 0, .int .i64 0, .int .i64 0] 55 (0, 0)) (sqb BK375.out) NB375_0.out (by simp))
    replace BK385 := As_.mk (KeepBut.blk hk (g' := gb385) (o := .cells #[.int .i64 (wrap64 (1 + t376)), .int .i64 0, .int .i64 0, .int .i64 t379, .int .i64 t382, .int .i64 0] 55 (0, 0)) (sqb BK385.out) NB385_0.out (by simp))
    replace HK := As_.mk (KeepBut.trans z121_1 hk (.inl rfl))
    replace HB := As_.mk (hb)
    replace HI0 := As_.mk (hi)
    (try clear hb)
    (try clear hb2)
    (try clear hk)
    (try clear hi)
    refine hK.out _ _ (sc6 BK385.out) (fun hHeld => ?_)
    clear hK K; refine no 15 ?_; refine pu 4 16 ?_; refine pu 5 17 ?_
    refine last_ (i := 6) (N := none) #[true, true, true, true, true, true, true] rfl rfl sqk (by decide) (fun K hK => ?_)
    have hs64 : w63.cell? ⟨gb385, 5, none⟩ = some (.int .i64 0) := (bC_ BK385.out 5).trans rfl
    have hfs64 := bF_ BK385.out 5
    have hns64_0 := NB375_385.out
    have hms64_0 := NB385_375.out
    refine skip_ (w1 := ?_) (by rfl) rfl ?_ ?_
    rotate_left
    ·go_simp
     rfl
    refine hK.out _ _ ?_
    clear hK K
    refine dn ?_
    obtain ⟨hcz65_0, hcz65_1, hcz65_2, hcz65_3, hcz65_4, hcz65_5, hfz65_0, hfz65_1, hfz65_2, hfz65_3, hfz65_4, hfz65_5⟩ := sd6 BK385.out
    try go_wp2_with (first | ((with_reducible refine gate_callee (f := 132) rfl ?_); refine goesL_ (some 45) rfl rfl Try.func132 sqk rfl #[.pointer (some ⟨g, 0, none⟩), .int .i64 2] rfl sqm ?_; (with_reducible refine (spec_l5Name.calls g s0_0 t387 t388 2 t401 t402 t403 w0 _ ?side1 ?side2 A51.out).mono ?_); (case side1 => exact sqi); (case side2 => exact sqj); rintro e w66 ⟨rfl, hi, hb, hk⟩; refine ⟨_, rfl, ?_⟩; replace BK375 := As_.mk (KeepBut.blk hk (g' := gb375) (o := .cells #[.int .i64 0, .int .i64 0, .int .i64 0, .int .i64 0, .int .i64 0, .int .i64 0] 55 (0, 0)) (bp BK375) NB375_0.out (by simp)); replace BK385 := As_.mk (KeepBut.blk hk (g' := gb385) (o := .cells #[.int .i64 (wrap64 (1 + t376)), .int .i64 0, .int .i64 0, .int .i64 t379, .int .i64 t382, .int .i64 (wrap64 (t382 + t386))] 55 (0, 0)) (bp BK385) NB385_0.out (by simp)); replace HK := As_.mk (KeepBut.trans z121_1 hk (.inl rfl)); replace HB := As_.mk (hb); replace HI0 := As_.mk (hi); (try clear hb); (try clear hk); (try clear hi); obtain ⟨hcz67_0, hcz67_1, hcz67_2, hcz67_3, hcz67_4, hcz67_5, hfz67_0, hfz67_1, hfz67_2, hfz67_3, hfz67_4, hfz67_5⟩ := sd6 BK385.out) | ((with_reducible refine gate_callee (f := 105) rfl ?_); refine goesL_ (some 48) rfl rfl Try.func105 sqk rfl #[.pointer (some ⟨g, 0, none⟩), .int .i64 4] rfl sqm ?_; (with_reducible refine (spec_l1Below.calls g s0_0 t402 t403 4 t404 t405 t406 w0 _ ?side1 ?side2 A52.out).mono ?_); (case side1 => exact sqi); (case side2 => exact sqj); rintro e w68 ⟨rfl, hi, hb, hk⟩; refine ⟨_, rfl, ?_⟩; replace BK375 := As_.mk (KeepBut.blk hk (g' := gb375) (o := .cells #[.int .i64 0, .int .i64 0, .int .i64 0, .int .i64 0, .int .i64 0, .int .i64 0] 55 (0, 0)) (bp BK375) NB375_0.out (by simp)); replace BK385 := As_.mk (KeepBut.blk hk (g' := gb385) (o := .cells #[.int .i64 (wrap64 (1 + t376)), .int .i64 t401, .int .i64 0, .int .i64 t379, .int .i64 t382, .int .i64 (wrap64 (t382 + t386))] 55 (0, 0)) (bp BK385) NB385_0.out (by simp)); replace HK := As_.mk (KeepBut.trans z121_1 hk (.inl rfl)); replace HB := As_.mk (hb); replace HI0 := As_.mk (hi); (try clear hb); (try clear hk); (try clear hi); obtain ⟨hcz69_0, hcz69_1, hcz69_2, hcz69_3, hcz69_4, hcz69_5, hfz69_0, hfz69_1, hfz69_2, hfz69_3, hfz69_4, hfz69_5⟩ := sd6 BK385.out; have hnb70 := NB375_0.out; have hnc70 := NB0_375.out; obtain ⟨hcz71_0, hcz71_1, hcz71_2, hcz71_3, hcz71_4, hcz71_5, hfz71_0, hfz71_1, hfz71_2, hfz71_3, hfz71_4, hfz71_5⟩ := sd6 BK375.out))
    refine bodyPost_ret (results_cell_row rfl _ _ gb375 55 #[.int .i64 (wrap64 (1 + t376)), .int .i64 t401, .int .i64 t404, .int .i64 t379, .int .i64 t382, .int .i64 (wrap64 (t382 + t386))] (0, 0) _ rfl ?_ Try.underlying55 rfl sqk) rfl ?_; exact bp BK375
    exact ⟨sqe, sqi, sqj, by repeat (first | (with_reducible first | exact HK.out | apply KeepBut.set_ | apply keep_drewN | apply keep_drew | apply keep_alloc | refine keep_far ?_ GW375.out _ | refine keep_far ?_ GW385.out _) | exact HK.out)⟩
   ·rw [if_neg c50] at H
    have c50b0 : ((wrap64 (1 + t376)) == 3) = false := beq_eq_false_iff_ne.mpr c50
    have c50b1 : ((wrap64 (1 + t376)) != 3) = true := bne_iff_ne.mpr c50
    obtain ⟨⟨t407, t408, t409⟩, A72, H⟩ := bA H
    dsimp only at H
    obtain ⟨⟨t410, t411, t412⟩, A73, H⟩ := bA H
    dsimp only at H
    simp only [Option.some.injEq, Prod.mk.injEq] at H
    obtain ⟨rfl, rfl, rfl, rfl, rfl, rfl, rfl, rfl⟩ := H
    go_enter Try.func121, Try.ntmps121
    try go_wp2_with (first | ((with_reducible refine gate_dst (N := 2) rfl ?_); refine bx (N := 2) (cs := #[.int .i64 0, .int .i64 0, .int .i64 0, .int .i64 0, .int .i64 0, .int .i64 0]) (t := 55) ?_; intro gb375 hg w74 hbox hb; replace HB := As_.mk (below_step sqj hb); have BK375 := As_.mk (hbox); have GW375 := As_.mk ((z121_3 : w.heap.size ≤ gb375)); have GE375 := As_.mk ((Nat.le_trans HW0.out (z121_3 : w.heap.size ≤ gb375) : w0.heap.size ≤ gb375)); replace HK := As_.mk (KeepBut.trans sqp (KeepBut.of_below hb g none) (.inl rfl)); have NB0_375 := As_.mk ((z121_5 : g ≠ gb375)); have NB375_0 := As_.mk ((z121_7 : gb375 ≠ g)); replace HI0 := As_.mk (IsS125.below sqi hb); clear hb hbox hg) | ((with_reducible refine gate_callee (f := 105) rfl ?_); refine goesL_ (some 5) rfl rfl Try.func105 sqk rfl #[.pointer (some ⟨g, 0, none⟩), .int .i64 4] rfl sqm ?_; (with_reducible refine (spec_l1Below.calls g s0_0 s0_1 s0_2 4 t376 t377 t378 w0 _ ?side1 ?side2 A2.out).mono ?_); (case side1 => exact sqi); (case side2 => exact sqj); rintro e w75 ⟨rfl, hi, hb, hk⟩; refine ⟨_, rfl, ?_⟩; replace BK375 := As_.mk (KeepBut.blk hk (g' := gb375) (o := .cells #[.int .i64 0, .int .i64 0, .int .i64 0, .int .i64 0, .int .i64 0, .int .i64 0] 55 (0, 0)) (sqb BK375.out) NB375_0.out (by simp)); replace HK := As_.mk (KeepBut.trans z121_0 hk (.inl rfl)); replace HB := As_.mk (hb); replace HI0 := As_.mk (hi); (try clear hb); (try clear hk); (try clear hi)) | ((with_reducible refine gate_callee (f := 105) rfl ?_); refine goesL_ (some 8) rfl rfl Try.func105 sqk rfl #[.pointer (some ⟨g, 0, none⟩), .int .i64 3] rfl sqm ?_; (with_reducible refine (spec_l1Below.calls g s0_0 t377 t378 3 t379 t380 t381 w0 _ ?side1 ?side2 A3.out).mono ?_); (case side1 => exact sqi); (case side2 => exact sqj); rintro e w76 ⟨rfl, hi, hb, hk⟩; refine ⟨_, rfl, ?_⟩; replace BK375 := As_.mk (KeepBut.blk hk (g' := gb375) (o := .cells #[.int .i64 0, .int .i64 0, .int .i64 0, .int .i64 0, .int .i64 0, .int .i64 0] 55 (0, 0)) (sqb BK375.out) NB375_0.out (by simp)); replace HK := As_.mk (KeepBut.trans z121_0 hk (.inl rfl)); replace HB := As_.mk (hb); replace HI0 := As_.mk (hi); (try clear hb); (try clear hk); (try clear hi)) | ((with_reducible refine gate_callee (f := 105) rfl ?_); refine goesL_ (some 10) rfl rfl Try.func105 sqk rfl #[.pointer (some ⟨g, 0, none⟩), .int .i64 20] rfl sqm ?_; (with_reducible refine (spec_l1Below.calls g s0_0 t380 t381 20 t382 t383 t384 w0 _ ?side1 ?side2 A4.out).mono ?_); (case side1 => exact sqi); (case side2 => exact sqj); rintro e w77 ⟨rfl, hi, hb, hk⟩; refine ⟨_, rfl, ?_⟩; replace BK375 := As_.mk (KeepBut.blk hk (g' := gb375) (o := .cells #[.int .i64 0, .int .i64 0, .int .i64 0, .int .i64 0, .int .i64 0, .int .i64 0] 55 (0, 0)) (sqb BK375.out) NB375_0.out (by simp)); replace HK := As_.mk (KeepBut.trans z121_0 hk (.inl rfl)); replace HB := As_.mk (hb); replace HI0 := As_.mk (hi); (try clear hb); (try clear hk); (try clear hi)) | ((with_reducible refine gate_dst (N := 3) rfl ?_); refine bx (N := 3) (cs := #[.int .i64 0, .int .i64 0, .int .i64 0, .int .i64 0, .int .i64 0, .int .i64 0]) (t := 55) ?_; intro gb385 hg w78 hbox hb; replace HB := As_.mk (below_step sqj hb); have BK385 := As_.mk (hbox); have GW385 := As_.mk ((z121_2 : w.heap.size ≤ gb385)); have GE385 := As_.mk ((Nat.le_trans HW0.out (z121_2 : w.heap.size ≤ gb385) : w0.heap.size ≤ gb385)); replace HK := As_.mk (KeepBut.trans z121_0 (KeepBut.of_below hb g none) (.inl rfl)); have NB375_385 := As_.mk ((by rw [hg]; exact Nat.ne_of_lt (blk_lt (bo BK375)) : gb375 ≠ gb385)); have NB385_375 := As_.mk ((by rw [hg]; exact Nat.ne_of_gt (blk_lt (bo BK375)) : gb385 ≠ gb375)); replace BK375 := As_.mk (blk_below (bo BK375) hb); have NB0_385 := As_.mk ((z121_4 : g ≠ gb385)); have NB385_0 := As_.mk ((z121_6 : gb385 ≠ g)); replace HI0 := As_.mk (IsS125.below sqi hb); clear hb hbox hg; have hnb79 := NB385_375.out; have hnc79 := NB375_385.out; have hnb80 := NB385_0.out; have hnc80 := NB0_385.out; obtain ⟨hcz81_0, hcz81_1, hcz81_2, hcz81_3, hcz81_4, hcz81_5, hfz81_0, hfz81_1, hfz81_2, hfz81_3, hfz81_4, hfz81_5⟩ := sd6 BK385.out))
    have n0_ : As_ (((((((w78.setCell ⟨gb385, 0, none⟩ (.int .i64 (wrap64 (1 + t376)))).setCell ⟨gb385, 1, none⟩ (.int .i64 0)).setCell ⟨gb385, 2, none⟩ (.int .i64 0)).setCell ⟨gb385, 3, none⟩ (.int .i64 t379)).setCell ⟨gb385, 4, none⟩ (.int .i64 t382)).setCell ⟨gb385, 5, none⟩ (.int .i64 0)).heap[gb375]? = some (.cells #[.int .i64 0, .int .i64 0, .int .i64 0, .int .i64 0, .int .i64 0, .int .i64 0] 55 (0, 0))) := ⟨bp BK375⟩
    have n1_ : As_ (((((((w78.setCell ⟨gb385, 0, none⟩ (.int .i64 (wrap64 (1 + t376)))).setCell ⟨gb385, 1, none⟩ (.int .i64 0)).setCell ⟨gb385, 2, none⟩ (.int .i64 0)).setCell ⟨gb385, 3, none⟩ (.int .i64 t379)).setCell ⟨gb385, 4, none⟩ (.int .i64 t382)).setCell ⟨gb385, 5, none⟩ (.int .i64 0)).heap[gb385]? = some (.cells #[.int .i64 (wrap64 (1 + t376)), .int .i64 0, .int .i64 0, .int .i64 t379, .int .i64 t382, .int .i64 0] 55 (0, 0))) := ⟨bp BK385⟩
    have n2_ : As_ (IsS125 w0 ((((((w78.setCell ⟨gb385, 0, none⟩ (.int .i64 (wrap64 (1 + t376)))).setCell ⟨gb385, 1, none⟩ (.int .i64 0)).setCell ⟨gb385, 2, none⟩ (.int .i64 0)).setCell ⟨gb385, 3, none⟩ (.int .i64 t379)).setCell ⟨gb385, 4, none⟩ (.int .i64 t382)).setCell ⟨gb385, 5, none⟩ (.int .i64 0)) g s0_0 t383 t384) := ⟨sqi⟩
    have n3_ : As_ (KeepBut w ((((((w78.setCell ⟨gb385, 0, none⟩ (.int .i64 (wrap64 (1 + t376)))).setCell ⟨gb385, 1, none⟩ (.int .i64 0)).setCell ⟨gb385, 2, none⟩ (.int .i64 0)).setCell ⟨gb385, 3, none⟩ (.int .i64 t379)).setCell ⟨gb385, 4, none⟩ (.int .i64 t382)).setCell ⟨gb385, 5, none⟩ (.int .i64 0)) g none) := ⟨by repeat (first | (with_reducible first | exact HK.out | apply KeepBut.set_ | apply keep_drewN | apply keep_drew | apply keep_alloc | refine keep_far ?_ GW375.out _ | refine keep_far ?_ GW385.out _) | exact HK.out)⟩
    have n4_ : As_ (Below w0.heap.size w0 ((((((w78.setCell ⟨gb385, 0, none⟩ (.int .i64 (wrap64 (1 + t376)))).setCell ⟨gb385, 1, none⟩ (.int .i64 0)).setCell ⟨gb385, 2, none⟩ (.int .i64 0)).setCell ⟨gb385, 3, none⟩ (.int .i64 t379)).setCell ⟨gb385, 4, none⟩ (.int .i64 t382)).setCell ⟨gb385, 5, none⟩ (.int .i64 0))) := ⟨sqj⟩
    (try clear BK375)
    (try clear BK385)
    (try clear HI0)
    (try clear HK)
    (try clear HB)
    generalize ((((((w78.setCell ⟨gb385, 0, none⟩ (.int .i64 (wrap64 (1 + t376)))).setCell ⟨gb385, 1, none⟩ (.int .i64 0)).setCell ⟨gb385, 2, none⟩ (.int .i64 0)).setCell ⟨gb385, 3, none⟩ (.int .i64 t379)).setCell ⟨gb385, 4, none⟩ (.int .i64 t382)).setCell ⟨gb385, 5, none⟩ (.int .i64 0)) = w82 at n0_ n1_ n2_ n3_ n4_ ⊢
    have BK375 := n0_
    have BK385 := n1_
    have HI0 := n2_
    have HK := n3_
    have HB := n4_
    clear n0_ n1_ n2_ n3_ n4_
    replace BK375 := As_.mk (blk_drew BK375.out)
    replace BK385 := As_.mk (blk_drew BK385.out)
    replace HI0 := As_.mk (IsS125.drew HI0.out)
    replace HK := As_.mk (keep_drew HK.out)
    replace HB := As_.mk (bD_ HB.out)
    refine start_ (n := 7) (S := fun w' => w'.cell? ⟨gb385, 0, none⟩ = some (.int .i64 (wrap64 (1 + t376))) ∧ w'.cell? ⟨gb385, 1, none⟩ = some (.int .i64 0) ∧ w'.cell? ⟨gb385, 2, none⟩ = some (.int .i64 0) ∧ w'.cell? ⟨gb385, 3, none⟩ = some (.int .i64 t379) ∧ w'.cell? ⟨gb385, 4, none⟩ = some (.int .i64 t382) ∧ w'.cell? ⟨gb385, 5, none⟩ = some (.int .i64 0)) (ds := [6]) #[false, false, false, false, false, false, false] sqk rfl rfl (sc6 BK385.out) (fun hHeld => ?_)
    generalize w82.drew = w83 at BK375 BK385 HI0 HK HB hHeld ⊢
    refine pu 0 12 ?_; refine pu 2 14 ?_; refine ta 1 13 ?_
    refine on 3 (some 15) (fun K hK => ?_)
    refine goes_ Try.func105 sqk rfl #[.pointer (some ⟨g, 0, none⟩), .int .i64 30] (by rfl) rfl rfl sqm ?_
    with_reducible refine (spec_l1Below.calls g s0_0 t383 t384 30 t386 t387 t388 w0 _ ?side1 ?side2 A5.out).mono ?_
    (case side1 => exact sqi)
    (case side2 => exact sqj)
    rintro e w84 ⟨rfl, hi, hb, hk⟩
    refine ⟨_, rfl, ?_⟩
    replace BK375 := As_.mk (KeepBut.blk hk (g' := gb375) (o := .cells #[.int .i64 0, .int .i64 0, .int .i64 0, .int .i64 0, .int .i64 0, .int .i64 0] 55 (0, 0)) (sqb BK375.out) NB375_0.out (by simp))
    replace BK385 := As_.mk (KeepBut.blk hk (g' := gb385) (o := .cells #[.int .i64 (wrap64 (1 + t376)), .int .i64 0, .int .i64 0, .int .i64 t379, .int .i64 t382, .int .i64 0] 55 (0, 0)) (sqb BK385.out) NB385_0.out (by simp))
    replace HK := As_.mk (KeepBut.trans z121_1 hk (.inl rfl))
    replace HB := As_.mk (hb)
    replace HI0 := As_.mk (hi)
    (try clear hb)
    (try clear hb2)
    (try clear hk)
    (try clear hi)
    refine hK.out _ _ (sc6 BK385.out) (fun hHeld => ?_)
    clear hK K; refine no 15 ?_; refine pu 4 16 ?_; refine pu 5 17 ?_
    refine last_ (i := 6) (N := none) #[true, true, true, true, true, true, true] rfl rfl sqk (by decide) (fun K hK => ?_)
    have hs85 : w84.cell? ⟨gb385, 5, none⟩ = some (.int .i64 0) := (bC_ BK385.out 5).trans rfl
    have hfs85 := bF_ BK385.out 5
    have hns85_0 := NB375_385.out
    have hms85_0 := NB385_375.out
    refine skip_ (w1 := ?_) (by rfl) rfl ?_ ?_
    rotate_left
    ·go_simp
     rfl
    refine hK.out _ _ ?_
    clear hK K
    refine dn ?_
    obtain ⟨hcz86_0, hcz86_1, hcz86_2, hcz86_3, hcz86_4, hcz86_5, hfz86_0, hfz86_1, hfz86_2, hfz86_3, hfz86_4, hfz86_5⟩ := sd6 BK385.out
    try go_wp2_with (first | ((with_reducible refine gate_callee (f := 132) rfl ?_); refine goesL_ (some 21) rfl rfl Try.func132 sqk rfl #[.pointer (some ⟨g, 0, none⟩), .int .i64 3] rfl sqm ?_; (with_reducible refine (spec_l5Name.calls g s0_0 t387 t388 3 t407 t408 t409 w0 _ ?side1 ?side2 A72.out).mono ?_); (case side1 => exact sqi); (case side2 => exact sqj); rintro e w87 ⟨rfl, hi, hb, hk⟩; refine ⟨_, rfl, ?_⟩; replace BK375 := As_.mk (KeepBut.blk hk (g' := gb375) (o := .cells #[.int .i64 0, .int .i64 0, .int .i64 0, .int .i64 0, .int .i64 0, .int .i64 0] 55 (0, 0)) (bp BK375) NB375_0.out (by simp)); replace BK385 := As_.mk (KeepBut.blk hk (g' := gb385) (o := .cells #[.int .i64 (wrap64 (1 + t376)), .int .i64 0, .int .i64 0, .int .i64 t379, .int .i64 t382, .int .i64 (wrap64 (t382 + t386))] 55 (0, 0)) (bp BK385) NB385_0.out (by simp)); replace HK := As_.mk (KeepBut.trans z121_1 hk (.inl rfl)); replace HB := As_.mk (hb); replace HI0 := As_.mk (hi); (try clear hb); (try clear hk); (try clear hi); obtain ⟨hcz88_0, hcz88_1, hcz88_2, hcz88_3, hcz88_4, hcz88_5, hfz88_0, hfz88_1, hfz88_2, hfz88_3, hfz88_4, hfz88_5⟩ := sd6 BK385.out) | ((with_reducible refine gate_callee (f := 105) rfl ?_); refine goesL_ (some 24) rfl rfl Try.func105 sqk rfl #[.pointer (some ⟨g, 0, none⟩), .int .i64 4] rfl sqm ?_; (with_reducible refine (spec_l1Below.calls g s0_0 t408 t409 4 t410 t411 t412 w0 _ ?side1 ?side2 A73.out).mono ?_); (case side1 => exact sqi); (case side2 => exact sqj); rintro e w89 ⟨rfl, hi, hb, hk⟩; refine ⟨_, rfl, ?_⟩; replace BK375 := As_.mk (KeepBut.blk hk (g' := gb375) (o := .cells #[.int .i64 0, .int .i64 0, .int .i64 0, .int .i64 0, .int .i64 0, .int .i64 0] 55 (0, 0)) (bp BK375) NB375_0.out (by simp)); replace BK385 := As_.mk (KeepBut.blk hk (g' := gb385) (o := .cells #[.int .i64 (wrap64 (1 + t376)), .int .i64 t407, .int .i64 0, .int .i64 t379, .int .i64 t382, .int .i64 (wrap64 (t382 + t386))] 55 (0, 0)) (bp BK385) NB385_0.out (by simp)); replace HK := As_.mk (KeepBut.trans z121_1 hk (.inl rfl)); replace HB := As_.mk (hb); replace HI0 := As_.mk (hi); (try clear hb); (try clear hk); (try clear hi); obtain ⟨hcz90_0, hcz90_1, hcz90_2, hcz90_3, hcz90_4, hcz90_5, hfz90_0, hfz90_1, hfz90_2, hfz90_3, hfz90_4, hfz90_5⟩ := sd6 BK385.out; have hnb91 := NB375_0.out; have hnc91 := NB0_375.out; obtain ⟨hcz92_0, hcz92_1, hcz92_2, hcz92_3, hcz92_4, hcz92_5, hfz92_0, hfz92_1, hfz92_2, hfz92_3, hfz92_4, hfz92_5⟩ := sd6 BK375.out))
    refine bodyPost_ret (results_cell_row rfl _ _ gb375 55 #[.int .i64 (wrap64 (1 + t376)), .int .i64 t407, .int .i64 t410, .int .i64 t379, .int .i64 t382, .int .i64 (wrap64 (t382 + t386))] (0, 0) _ rfl ?_ Try.underlying55 rfl sqk) rfl ?_; exact bp BK375
    exact ⟨sqe, sqi, sqj, by repeat (first | (with_reducible first | exact HK.out | apply KeepBut.set_ | apply keep_drewN | apply keep_drew | apply keep_alloc | refine keep_far ?_ GW375.out _ | refine keep_far ?_ GW385.out _) | exact HK.out)⟩

/-! ### spec_l1Once: function 133 -/
def spec_l1Once.f (s0_0 : List Int) (s0_1 : Int) (s0_2 : Int) (a1 : Int) : Option (Bool × Int × Int) := (spec_l1Below.f s0_0 s0_1 s0_2 a1).bind fun bt413 => (some ((bt413.1 == 0), bt413.2.1, bt413.2.2))
set_option maxHeartbeats 8000000 in
set_option maxRecDepth 100000 in
theorem spec_l1Once.calls (g : Nat) (s0_0 : List Int) (s0_1 : Int) (s0_2 : Int) (a1 : Int) (r1 : Bool) (r2 : Int) (r3 : Int) (w0 w : World) (hI : IsS125 w0 w g s0_0 s0_1 s0_2) (hB : Below w0.heap.size w0 w) (h : spec_l1Once.f s0_0 s0_1 s0_2 a1 = some (r1, r2, r3)) :
  Calls Try.prog 133 #[.pointer (some ⟨g, 0, none⟩), .int .i64 a1] w fun e w' => e = .returned (.bool r1) ∧ IsS125 w0 w' g s0_0 r2 r3 ∧ Below w0.heap.size w0 w' ∧ KeepBut w w' g none := by
 have HI0 := As_.mk hI
 have HK := As_.mk (KeepBut.refl w g none)
 have HL := As_.mk hB.size
 clear hI
 have HW0 := As_.mk hB.size
 have HB := As_.mk hB
 clear hB
 have H : ((spec_l1Below.f s0_0 s0_1 s0_2 a1).bind fun bt413 => (some ((bt413.1 == 0), bt413.2.1, bt413.2.2))) = some (r1, r2, r3) := h
 clear h
 obtain ⟨⟨t413, t414, t415⟩, A3, H⟩ := bA H
 dsimp only at H
 simp only [Option.some.injEq, Prod.mk.injEq] at H
 obtain ⟨rfl, rfl, rfl⟩ := H
 go_enter Try.func133, Try.ntmps133
 go_wp2_with (first | ((with_reducible refine gate_callee (f := 105) rfl ?_); refine goesL_ (some 7) rfl rfl Try.func105 sqk rfl #[.pointer (some ⟨g, 0, none⟩), .int .i64 a1] rfl sqm ?_; (with_reducible refine (spec_l1Below.calls g s0_0 s0_1 s0_2 a1 t413 t414 t415 w0 _ ?side1 ?side2 A3.out).mono ?_); (case side1 => exact sqi); (case side2 => exact sqj); rintro e w4 ⟨rfl, hi, hb, hk⟩; refine ⟨_, rfl, ?_⟩; replace HK := As_.mk (KeepBut.trans sqp hk (.inl rfl)); replace HB := As_.mk (hb); replace HI0 := As_.mk (hi); (try clear hb); (try clear hk); (try clear hi)))
 go_ret
 exact ⟨sqe, sqi, sqj, sqp⟩

/-! ### spec_l5Any: function 122 -/
def spec_l5Any.f (s0_0 : List Int) (s0_1 : Int) (s0_2 : Int) : Option (Int × Int × Int) := (spec_l1Once.f s0_0 s0_1 s0_2 6).bind fun bt416 => (if bt416.1 = true then ((spec_l1Int.f s0_0 bt416.2.1 bt416.2.2 (([(-1), 9, 10, 49, 50, 19] : List Int))).bind fun bt422 => (some (bt422.1, bt422.2.1, bt422.2.2))) else ((spec_l1Below.f s0_0 bt416.2.1 bt416.2.2 4).bind fun bt425 => ((spec_l5Name.f s0_0 bt425.2.1 bt425.2.2 (wrap64 (1 + bt425.1))).bind fun bt428 => (some (bt428.1, bt428.2.1, bt428.2.2)))))
set_option maxHeartbeats 8000000 in
set_option maxRecDepth 100000 in
theorem spec_l5Any.calls (g : Nat) (s0_0 : List Int) (s0_1 : Int) (s0_2 : Int) (r1 : Int) (r2 : Int) (r3 : Int) (w0 w : World) (hI : IsS125 w0 w g s0_0 s0_1 s0_2) (hB : Below w0.heap.size w0 w) (h : spec_l5Any.f s0_0 s0_1 s0_2 = some (r1, r2, r3)) :
  Calls Try.prog 122 #[.pointer (some ⟨g, 0, none⟩)] w fun e w' => e = .returned (.int .i64 r1) ∧ IsS125 w0 w' g s0_0 r2 r3 ∧ Below w0.heap.size w0 w' ∧ KeepBut w w' g none := by
 have HI0 := As_.mk hI
 have HK := As_.mk (KeepBut.refl w g none)
 have HL := As_.mk hB.size
 clear hI
 have HW0 := As_.mk hB.size
 have HB := As_.mk hB
 clear hB
 have H : ((spec_l1Once.f s0_0 s0_1 s0_2 6).bind fun bt416 => (if bt416.1 = true then ((spec_l1Int.f s0_0 bt416.2.1 bt416.2.2 (([(-1), 9, 10, 49, 50, 19] : List Int))).bind fun bt422 => (some (bt422.1, bt422.2.1, bt422.2.2))) else ((spec_l1Below.f s0_0 bt416.2.1 bt416.2.2 4).bind fun bt425 => ((spec_l5Name.f s0_0 bt425.2.1 bt425.2.2 (wrap64 (1 + bt425.1))).bind fun bt428 => (some (bt428.1, bt428.2.1, bt428.2.2)))))) = some (r1, r2, r3) := h
 clear h
 obtain ⟨⟨t416, t417, t418⟩, A2, H⟩ := bA H
 dsimp only at H
 by_cases c3 : t416 = true
 ·subst c3
  replace H := iT H
  obtain ⟨y419, hy419⟩ : ∃ y_ : List Int, y_ = (([(-1), 9, 10, 49, 50, 19] : List Int)) := ⟨_, rfl⟩
  replace H : ((spec_l1Int.f s0_0 t417 t418 y419).bind fun bt422 => (some (bt422.1, bt422.2.1, bt422.2.2))) = some (r1, r2, r3) := by first | (rw [hy419]; with_reducible exact H) | (have H2_ := (Option.bind_some _ _).symm.trans H; rw [hy419]; with_reducible exact H2_) | (have H2_ := (Option.bind_some _ _).symm.trans H; with_reducible exact H2_) | with_reducible exact H | (rw [hy419]; exact H) | exact H
  have Ny419 := As_.mk hy419
  clear hy419
  obtain ⟨⟨t422, t423, t424⟩, A4, H⟩ := bA H
  dsimp only at H
  simp only [Option.some.injEq, Prod.mk.injEq] at H
  obtain ⟨rfl, rfl, rfl⟩ := H
  go_enter Try.func122, Try.ntmps122
  go_wp2_with (first | ((with_reducible refine gate_callee (f := 133) rfl ?_); refine goesL_ (some 4) rfl rfl Try.func133 sqk rfl #[.pointer (some ⟨g, 0, none⟩), .int .i64 6] rfl sqm ?_; (with_reducible refine (spec_l1Once.calls g s0_0 s0_1 s0_2 6 true t417 t418 w0 _ ?side1 ?side2 A2.out).mono ?_); (case side1 => exact sqi); (case side2 => exact sqj); rintro e w5 ⟨rfl, hi, hb, hk⟩; refine ⟨_, rfl, ?_⟩; replace HK := As_.mk (KeepBut.trans sqp hk (.inl rfl)); replace HB := As_.mk (hb); replace HI0 := As_.mk (hi); (try clear hb); (try clear hk); (try clear hi)) | ((with_reducible refine gate_dst (N := 6) rfl ?_); refine Kd.R_lit (Kd.int .i64) _ 3 ?hg (N := 6) ?hd (xs := ([(-1), 9, 10, 49, 50, 19] : List Int)) (inner := [.int .i64 (-1), .int .i64 9, .int .i64 10, .int .i64 49, .int .i64 50, .int .i64 19]) (ok := fun _ => True) (okp := fun _ => True) ?hr ?hp (fun _ hk => hk) trivial (Below.refl _ _) (Nat.le_refl _) (by simp) ?_; (case hd => rfl); (case hg => rfl); (case hr => first | (go_simp; done) | (go_simp; rfl)); (case hp => exact (Reps.one (show Kd.M (Kd.int .i64) _ _ _ (-1) [.int .i64 (-1)] from rfl) (Reps.one (show Kd.M (Kd.int .i64) _ _ _ 9 [.int .i64 9] from rfl) (Reps.one (show Kd.M (Kd.int .i64) _ _ _ 10 [.int .i64 10] from rfl) (Reps.one (show Kd.M (Kd.int .i64) _ _ _ 49 [.int .i64 49] from rfl) (Reps.one (show Kd.M (Kd.int .i64) _ _ _ 50 [.int .i64 50] from rfl) (Reps.one (show Kd.M (Kd.int .i64) _ _ _ 19 [.int .i64 19] from rfl) (Reps.none _ _)))))))); intro v420 w6 ho7 hb hg_ hnew_; clear hg_ hnew_; (first | rw [← Ny419.out] at ho7 | (simp only [Int.reduceToNat] at ho7; rw [← Ny419.out] at ho7)); have HO421 := As_.mk (Kd.R_lower ho7 (keep_size (w := w) (g := g) (row := none) sqp)); replace HK := As_.mk (KeepBut.trans sqp (KeepBut.of_below hb g none) (.inl rfl)); replace HB := As_.mk (below_step sqj hb); replace HI0 := As_.mk (IsS125.below sqi hb); clear hb ho7; obtain ⟨Ao8, co8, eo8⟩ := Kd.R_slice HO421.out; subst eo8) | ((with_reducible refine gate_callee (f := 120) rfl ?_); refine goesL_ (some 7) rfl rfl Try.func120 sqk rfl #[.pointer (some ⟨g, 0, none⟩), .slice Ao8 y419.length co8] rfl sqm ?_; (with_reducible refine (spec_l1Int.calls g s0_0 t417 t418 _ _ y419 t422 t423 t424 w0 _ ?side1 ?side2 ?side3 ?side4 ?side5 A4.out).mono ?_); (case side1 => exact sqi); (case side2 => exact sqj); (case side3 => repeat (first | exact (Kd.R_reads' HO421.out).2.2 | (with_reducible refine Kd.C_alloc ?_ _) | (with_reducible refine Kd.C_drewN ?_ _) | (with_reducible refine Kd.C_drew ?_))); (case side4 => exact (Kd.R_reads' HO421.out).2.1); (case side5 => exact far_slice (IsS125.own_ne HI0.out HO421.out (by decide))); rintro e w9 ⟨rfl, hi, hb, hk⟩; refine ⟨_, rfl, ?_⟩; replace HO421 := As_.mk (Kd.R_mono (Kd.R_keep (IsS125.apart (show IsS125 w0 _ g s0_0 t417 t418 from sqi) (sqq HO421.out) (by decide)) hk (fun _ h => h.2)) (fun _ h => h.1)); replace HK := As_.mk (KeepBut.trans sqp hk (.inl rfl)); replace HB := As_.mk (hb); replace HI0 := As_.mk (hi); (try clear hb); (try clear hk); (try clear hi)))
  go_ret
  exact ⟨sqe, sqi, sqj, sqp⟩
 ·replace c3 := Bool.eq_false_iff.mpr c3
  subst c3
  replace H := iF H
  obtain ⟨⟨t425, t426, t427⟩, A10, H⟩ := bA H
  dsimp only at H
  obtain ⟨⟨t428, t429, t430⟩, A11, H⟩ := bA H
  dsimp only at H
  simp only [Option.some.injEq, Prod.mk.injEq] at H
  obtain ⟨rfl, rfl, rfl⟩ := H
  go_enter Try.func122, Try.ntmps122
  go_wp2_with (first | ((with_reducible refine gate_callee (f := 133) rfl ?_); refine goesL_ (some 4) rfl rfl Try.func133 sqk rfl #[.pointer (some ⟨g, 0, none⟩), .int .i64 6] rfl sqm ?_; (with_reducible refine (spec_l1Once.calls g s0_0 s0_1 s0_2 6 false t417 t418 w0 _ ?side1 ?side2 A2.out).mono ?_); (case side1 => exact sqi); (case side2 => exact sqj); rintro e w12 ⟨rfl, hi, hb, hk⟩; refine ⟨_, rfl, ?_⟩; replace HK := As_.mk (KeepBut.trans sqp hk (.inl rfl)); replace HB := As_.mk (hb); replace HI0 := As_.mk (hi); (try clear hb); (try clear hk); (try clear hi)) | ((with_reducible refine gate_callee (f := 105) rfl ?_); refine goesL_ (some 10) rfl rfl Try.func105 sqk rfl #[.pointer (some ⟨g, 0, none⟩), .int .i64 4] rfl sqm ?_; (with_reducible refine (spec_l1Below.calls g s0_0 t417 t418 4 t425 t426 t427 w0 _ ?side1 ?side2 A10.out).mono ?_); (case side1 => exact sqi); (case side2 => exact sqj); rintro e w13 ⟨rfl, hi, hb, hk⟩; refine ⟨_, rfl, ?_⟩; replace HK := As_.mk (KeepBut.trans sqp hk (.inl rfl)); replace HB := As_.mk (hb); replace HI0 := As_.mk (hi); (try clear hb); (try clear hk); (try clear hi)) | ((with_reducible refine gate_callee (f := 132) rfl ?_); refine goesL_ (some 12) rfl rfl Try.func132 sqk rfl #[.pointer (some ⟨g, 0, none⟩), .int .i64 (wrap64 (1 + t425))] rfl sqm ?_; (with_reducible refine (spec_l5Name.calls g s0_0 t426 t427 (wrap64 (1 + t425)) t428 t429 t430 w0 _ ?side1 ?side2 A11.out).mono ?_); (case side1 => exact sqi); (case side2 => exact sqj); rintro e w14 ⟨rfl, hi, hb, hk⟩; refine ⟨_, rfl, ?_⟩; replace HK := As_.mk (KeepBut.trans sqp hk (.inl rfl)); replace HB := As_.mk (hb); replace HI0 := As_.mk (hi); (try clear hb); (try clear hk); (try clear hi)))
  go_ret
  exact ⟨sqe, sqi, sqj, sqp⟩

/-! ### spec_l4Time: function 123 -/
def spec_l4Time.f (s0_0 : List Int) (s0_1 : Int) (s0_2 : Int) : Option (Int × Int × Int) := (spec_l1Once.f s0_0 s0_1 s0_2 8).bind fun bt431 => (if bt431.1 = true then ((spec_l1Int.f s0_0 bt431.2.1 bt431.2.2 (([(-1), 0, 10000, 10001, 9223372036854775807, (-9223372036854775808)] : List Int))).bind fun bt437 => (some (bt437.1, bt437.2.1, bt437.2.2))) else ((spec_l1Below.f s0_0 bt431.2.1 bt431.2.2 40).bind fun bt440 => (some (bt440.1, bt440.2.1, bt440.2.2))))
set_option maxHeartbeats 8000000 in
set_option maxRecDepth 100000 in
theorem spec_l4Time.calls (g : Nat) (s0_0 : List Int) (s0_1 : Int) (s0_2 : Int) (r1 : Int) (r2 : Int) (r3 : Int) (w0 w : World) (hI : IsS125 w0 w g s0_0 s0_1 s0_2) (hB : Below w0.heap.size w0 w) (h : spec_l4Time.f s0_0 s0_1 s0_2 = some (r1, r2, r3)) :
  Calls Try.prog 123 #[.pointer (some ⟨g, 0, none⟩)] w fun e w' => e = .returned (.int .i64 r1) ∧ IsS125 w0 w' g s0_0 r2 r3 ∧ Below w0.heap.size w0 w' ∧ KeepBut w w' g none := by
 have HI0 := As_.mk hI
 have HK := As_.mk (KeepBut.refl w g none)
 have HL := As_.mk hB.size
 clear hI
 have HW0 := As_.mk hB.size
 have HB := As_.mk hB
 clear hB
 have H : ((spec_l1Once.f s0_0 s0_1 s0_2 8).bind fun bt431 => (if bt431.1 = true then ((spec_l1Int.f s0_0 bt431.2.1 bt431.2.2 (([(-1), 0, 10000, 10001, 9223372036854775807, (-9223372036854775808)] : List Int))).bind fun bt437 => (some (bt437.1, bt437.2.1, bt437.2.2))) else ((spec_l1Below.f s0_0 bt431.2.1 bt431.2.2 40).bind fun bt440 => (some (bt440.1, bt440.2.1, bt440.2.2))))) = some (r1, r2, r3) := h
 clear h
 obtain ⟨⟨t431, t432, t433⟩, A2, H⟩ := bA H
 dsimp only at H
 by_cases c3 : t431 = true
 ·subst c3
  replace H := iT H
  obtain ⟨y434, hy434⟩ : ∃ y_ : List Int, y_ = (([(-1), 0, 10000, 10001, 9223372036854775807, (-9223372036854775808)] : List Int)) := ⟨_, rfl⟩
  replace H : ((spec_l1Int.f s0_0 t432 t433 y434).bind fun bt437 => (some (bt437.1, bt437.2.1, bt437.2.2))) = some (r1, r2, r3) := by first | (rw [hy434]; with_reducible exact H) | (have H2_ := (Option.bind_some _ _).symm.trans H; rw [hy434]; with_reducible exact H2_) | (have H2_ := (Option.bind_some _ _).symm.trans H; with_reducible exact H2_) | with_reducible exact H | (rw [hy434]; exact H) | exact H
  have Ny434 := As_.mk hy434
  clear hy434
  obtain ⟨⟨t437, t438, t439⟩, A4, H⟩ := bA H
  dsimp only at H
  simp only [Option.some.injEq, Prod.mk.injEq] at H
  obtain ⟨rfl, rfl, rfl⟩ := H
  go_enter Try.func123, Try.ntmps123
  go_wp2_with (first | ((with_reducible refine gate_callee (f := 133) rfl ?_); refine goesL_ (some 4) rfl rfl Try.func133 sqk rfl #[.pointer (some ⟨g, 0, none⟩), .int .i64 8] rfl sqm ?_; (with_reducible refine (spec_l1Once.calls g s0_0 s0_1 s0_2 8 true t432 t433 w0 _ ?side1 ?side2 A2.out).mono ?_); (case side1 => exact sqi); (case side2 => exact sqj); rintro e w5 ⟨rfl, hi, hb, hk⟩; refine ⟨_, rfl, ?_⟩; replace HK := As_.mk (KeepBut.trans sqp hk (.inl rfl)); replace HB := As_.mk (hb); replace HI0 := As_.mk (hi); (try clear hb); (try clear hk); (try clear hi)) | ((with_reducible refine gate_dst (N := 6) rfl ?_); refine Kd.R_lit (Kd.int .i64) _ 3 ?hg (N := 6) ?hd (xs := ([(-1), 0, 10000, 10001, 9223372036854775807, (-9223372036854775808)] : List Int)) (inner := [.int .i64 (-1), .int .i64 0, .int .i64 10000, .int .i64 10001, .int .i64 9223372036854775807, .int .i64 (-9223372036854775808)]) (ok := fun _ => True) (okp := fun _ => True) ?hr ?hp (fun _ hk => hk) trivial (Below.refl _ _) (Nat.le_refl _) (by simp) ?_; (case hd => rfl); (case hg => rfl); (case hr => first | (go_simp; done) | (go_simp; rfl)); (case hp => exact (Reps.one (show Kd.M (Kd.int .i64) _ _ _ (-1) [.int .i64 (-1)] from rfl) (Reps.one (show Kd.M (Kd.int .i64) _ _ _ 0 [.int .i64 0] from rfl) (Reps.one (show Kd.M (Kd.int .i64) _ _ _ 10000 [.int .i64 10000] from rfl) (Reps.one (show Kd.M (Kd.int .i64) _ _ _ 10001 [.int .i64 10001] from rfl) (Reps.one (show Kd.M (Kd.int .i64) _ _ _ 9223372036854775807 [.int .i64 9223372036854775807] from rfl) (Reps.one (show Kd.M (Kd.int .i64) _ _ _ (-9223372036854775808) [.int .i64 (-9223372036854775808)] from rfl) (Reps.none _ _)))))))); intro v435 w6 ho7 hb hg_ hnew_; clear hg_ hnew_; (first | rw [← Ny434.out] at ho7 | (simp only [Int.reduceToNat] at ho7; rw [← Ny434.out] at ho7)); have HO436 := As_.mk (Kd.R_lower ho7 (keep_size (w := w) (g := g) (row := none) sqp)); replace HK := As_.mk (KeepBut.trans sqp (KeepBut.of_below hb g none) (.inl rfl)); replace HB := As_.mk (below_step sqj hb); replace HI0 := As_.mk (IsS125.below sqi hb); clear hb ho7; obtain ⟨Ao8, co8, eo8⟩ := Kd.R_slice HO436.out; subst eo8) | ((with_reducible refine gate_callee (f := 120) rfl ?_); refine goesL_ (some 7) rfl rfl Try.func120 sqk rfl #[.pointer (some ⟨g, 0, none⟩), .slice Ao8 y434.length co8] rfl sqm ?_; (with_reducible refine (spec_l1Int.calls g s0_0 t432 t433 _ _ y434 t437 t438 t439 w0 _ ?side1 ?side2 ?side3 ?side4 ?side5 A4.out).mono ?_); (case side1 => exact sqi); (case side2 => exact sqj); (case side3 => repeat (first | exact (Kd.R_reads' HO436.out).2.2 | (with_reducible refine Kd.C_alloc ?_ _) | (with_reducible refine Kd.C_drewN ?_ _) | (with_reducible refine Kd.C_drew ?_))); (case side4 => exact (Kd.R_reads' HO436.out).2.1); (case side5 => exact far_slice (IsS125.own_ne HI0.out HO436.out (by decide))); rintro e w9 ⟨rfl, hi, hb, hk⟩; refine ⟨_, rfl, ?_⟩; replace HO436 := As_.mk (Kd.R_mono (Kd.R_keep (IsS125.apart (show IsS125 w0 _ g s0_0 t432 t433 from sqi) (sqq HO436.out) (by decide)) hk (fun _ h => h.2)) (fun _ h => h.1)); replace HK := As_.mk (KeepBut.trans sqp hk (.inl rfl)); replace HB := As_.mk (hb); replace HI0 := As_.mk (hi); (try clear hb); (try clear hk); (try clear hi)))
  go_ret
  exact ⟨sqe, sqi, sqj, sqp⟩
 ·replace c3 := Bool.eq_false_iff.mpr c3
  subst c3
  replace H := iF H
  obtain ⟨⟨t440, t441, t442⟩, A10, H⟩ := bA H
  dsimp only at H
  simp only [Option.some.injEq, Prod.mk.injEq] at H
  obtain ⟨rfl, rfl, rfl⟩ := H
  go_enter Try.func123, Try.ntmps123
  go_wp2_with (first | ((with_reducible refine gate_callee (f := 133) rfl ?_); refine goesL_ (some 4) rfl rfl Try.func133 sqk rfl #[.pointer (some ⟨g, 0, none⟩), .int .i64 8] rfl sqm ?_; (with_reducible refine (spec_l1Once.calls g s0_0 s0_1 s0_2 8 false t432 t433 w0 _ ?side1 ?side2 A2.out).mono ?_); (case side1 => exact sqi); (case side2 => exact sqj); rintro e w11 ⟨rfl, hi, hb, hk⟩; refine ⟨_, rfl, ?_⟩; replace HK := As_.mk (KeepBut.trans sqp hk (.inl rfl)); replace HB := As_.mk (hb); replace HI0 := As_.mk (hi); (try clear hb); (try clear hk); (try clear hi)) | ((with_reducible refine gate_callee (f := 105) rfl ?_); refine goesL_ (some 9) rfl rfl Try.func105 sqk rfl #[.pointer (some ⟨g, 0, none⟩), .int .i64 40] rfl sqm ?_; (with_reducible refine (spec_l1Below.calls g s0_0 t432 t433 40 t440 t441 t442 w0 _ ?side1 ?side2 A10.out).mono ?_); (case side1 => exact sqi); (case side2 => exact sqj); rintro e w12 ⟨rfl, hi, hb, hk⟩; refine ⟨_, rfl, ?_⟩; replace HK := As_.mk (KeepBut.trans sqp hk (.inl rfl)); replace HB := As_.mk (hb); replace HI0 := As_.mk (hi); (try clear hb); (try clear hk); (try clear hi)))
  go_ret
  exact ⟨sqe, sqi, sqj, sqp⟩

end Go.Proofs.Ytabpgiebhgkfhaa.XFnIssuers
