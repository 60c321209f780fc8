/- Written by this session's own program (wip/xprint, which runs over the kit's print): what the functions that the law reaches come to, each proved; and the law's row. Conditions: none. -/
import Derived.Test.YtabpgiebhgkfhaaUFnIssuersSq
import Derived.Test.YtabpgiebhgkfhaaUFnIssuersx0
import Derived.Test.YtabpgiebhgkfhaaUFnIssuersx2
import Derived.Test.YtabpgiebhgkfhaaUFnIssuersx3
namespace Go.Proofs.Ytabpgiebhgkfhaa.XFnIssuers
open Go.RowKit Go.Proofs.YtabpgiebhgkfhaaW.PrintWords Go.Proofs.YtabpgiebhgkfhaaW.PrintLast Go.Proofs.YtabpgiebhgkfhaaW.PrintMore Go.Proofs.YtabpgiebhgkfhaaSq
attribute [local go_sem] max2_int min2_int max_two min_two max_three min_three max_four min_four   -- for this text's walks alone
set_option linter.unusedVariables false
set_option linter.unusedSimpArgs false

/-! ### impl_StateFact: function 53 -/
def impl_StateFact.j0 : Nat → Bool → Int → List Int → Int → Int → Int → Int → Int → Int → Int → Option (Int × Int × Int × Int × Int × Int × Int × Bool)
 | 0, _, _, _, _, _, _, _, _, _, _ => none
 | k + 1, x24, x159000, x159001, x159002, x160000, x160001, x160002, x160003, x160004, x160005 => if x24 = true then (some (0, 0, 0, 0, 0, 0, 0, false)) else ((impl_FactInts.f x160000 x160001 x160002 x160003 x160004 x160005).bind fun t164 => ((impl_KeyedHash.f k x159002 t164).bind fun t167 => (some (x160000, x160001, x160002, x160003, x160004, x160005, t167, true))))
def impl_StateFact.f (k : Nat) (a0_0 : Int) (l0_1 : List Int) (a0_2 : Int) (a1_0 : Int) (a1_1 : Int) (a1_2 : Int) (a1_3 : Int) (a1_4 : Int) (a1_5 : Int) : Option (Int × Int × Int × Int × Int × Int × Int × Bool) := (impl_IsIssuer.f k a0_0 l0_1 a0_2).bind fun t161 => (if t161 = true then ((impl_IsFact.f a1_0 a1_1 a1_2 a0_0 a1_4 a1_5).bind fun t162 => (if t162 = true then ((slices_Contains_int_int.f k l0_1 a1_0).bind fun t163 => (impl_StateFact.j0 k (!t163) a0_0 l0_1 a0_2 a1_0 a1_1 a1_2 a0_0 a1_4 a1_5)) else (impl_StateFact.j0 k true a0_0 l0_1 a0_2 a1_0 a1_1 a1_2 a0_0 a1_4 a1_5))) else (impl_StateFact.j0 k true a0_0 l0_1 a0_2 a1_0 a1_1 a1_2 a0_0 a1_4 a1_5))
def impl_StateFact.T4 : Bool × List (List Nat × List Nat) := (true, [([], []), ([], []), ([1], [1]), ([], []), ([3], [3]), ([2, 4, 4], [2, 4]), ([0, 5], [0, 5]), ([6, 5, 0, 1, 2, 3, 4, 5, 6], [6]), ([7, 0, 1, 2, 3, 4, 5, 6, 7], [])])
def impl_StateFact.B4 : List Nat := [0, 0, 2, 0, 8, 30, 63, 127, 255]
theorem impl_StateFact.tab4 : rtab .any (opsOf Try.f53 4) = impl_StateFact.T4 := by kernel_rfl
theorem impl_StateFact.bits4 : waitsOk impl_StateFact.T4.2 impl_StateFact.B4 = true := by kernel_rfl
set_option maxHeartbeats 8000000 in
set_option maxRecDepth 100000 in
theorem impl_StateFact.calls (k : Nat) (a0_0 : Int) (A0_1 : Option Addr) (c0_1 : Nat) (l0_1 : List Int) (a0_2 : Int) (a1_0 : Int) (a1_1 : Int) (a1_2 : Int) (a1_3 : Int) (a1_4 : Int) (a1_5 : Int) (r1 : Int) (r2 : Int) (r3 : Int) (r4 : Int) (r5 : Int) (r6 : Int) (r7 : Int) (r8 : Bool) (w : World) (hr0_1 : Kd.C (Kd.int .i64) w A0_1 l0_1.length l0_1) (hc0_1 : l0_1.length ≤ c0_1) (h : impl_StateFact.f k a0_0 l0_1 a0_2 a1_0 a1_1 a1_2 a1_3 a1_4 a1_5 = some (r1, r2, r3, r4, r5, r6, r7, r8)) :
  Calls Try.prog 53 #[.agg #[.int .i64 a0_0, .slice A0_1 l0_1.length c0_1, .int .i64 a0_2], .agg #[.int .i64 a1_0, .int .i64 a1_1, .int .i64 a1_2, .int .i64 a1_3, .int .i64 a1_4, .int .i64 a1_5]] w fun e w' => e = .returned (.tuple #[.agg #[.int .i64 r1, .int .i64 r2, .int .i64 r3, .int .i64 r4, .int .i64 r5, .int .i64 r6, .int .i64 r7], .bool r8]) ∧ Below w.heap.size w w' := by
 have hu48 := Try.underlying48
 have hu55 := Try.underlying55
 have hu76 := Try.underlying76
 have HR0_1 := As_.mk hr0_1
 have HC0_1 := As_.mk hc0_1
 clear hr0_1 hc0_1
 have HB := As_.mk (Below.refl w.heap.size w)
 have H : ((impl_IsIssuer.f k a0_0 l0_1 a0_2).bind fun t161 => (if t161 = true then ((impl_IsFact.f a1_0 a1_1 a1_2 a0_0 a1_4 a1_5).bind fun t162 => (if t162 = true then ((slices_Contains_int_int.f k l0_1 a1_0).bind fun t163 => (impl_StateFact.j0 k (!t163) a0_0 l0_1 a0_2 a1_0 a1_1 a1_2 a0_0 a1_4 a1_5)) else (impl_StateFact.j0 k true a0_0 l0_1 a0_2 a1_0 a1_1 a1_2 a0_0 a1_4 a1_5))) else (impl_StateFact.j0 k true a0_0 l0_1 a0_2 a1_0 a1_1 a1_2 a0_0 a1_4 a1_5))) = some (r1, r2, r3, r4, r5, r6, r7, r8) := h
 clear h
 have HC3 := As_.mk H
 clear H
 go_enter Try.func53, Try.ntmps53
 go_upto_region 2 with (first | ((with_reducible refine gate_dst (N := 2) rfl ?_); refine bx (N := 2) (cs := #[.int .i64 a0_0, .slice A0_1 l0_1.length c0_1, .int .i64 a0_2]) (t := 48) ?_; intro gb158 hg w4 hbox hb; have BK158 := As_.mk (hbox); have GW158 := As_.mk ((by rw [hg]; exact (below_size sqh) : w.heap.size ≤ gb158)); have GE158 := As_.mk ((by rw [hg]; exact (below_size sqh) : w.heap.size ≤ gb158)); replace HB := As_.mk (below_step sqh hb); clear hb hbox hg) | ((with_reducible refine gate_dst (N := 3) rfl ?_); refine bx (N := 3) (cs := #[.int .i64 a1_0, .int .i64 a1_1, .int .i64 a1_2, .int .i64 a1_3, .int .i64 a1_4, .int .i64 a1_5]) (t := 55) ?_; intro gb159 hg w5 hbox hb; have BK159 := As_.mk (hbox); have GW159 := As_.mk ((by rw [hg]; exact (below_size sqh) : w.heap.size ≤ gb159)); have GE159 := As_.mk ((by rw [hg]; exact (below_size sqh) : w.heap.size ≤ gb159)); replace HB := As_.mk (below_step sqh hb); have NB158_159 := As_.mk ((by rw [hg]; exact Nat.ne_of_lt (blk_lt (bo BK158)) : gb158 ≠ gb159)); have NB159_158 := As_.mk ((by rw [hg]; exact Nat.ne_of_gt (blk_lt (bo BK158)) : gb159 ≠ gb158)); replace BK158 := As_.mk (blk_below (bo BK158) hb); clear hb hbox hg) | ((with_reducible refine gate_dst (N := 4) rfl ?_); refine bx (N := 4) (cs := #[.int .i64 0, .int .i64 0, .int .i64 0, .int .i64 0, .int .i64 0, .int .i64 0, .int .i64 0]) (t := 76) ?_; intro gb160 hg w6 hbox hb; have BK160 := As_.mk (hbox); have GW160 := As_.mk ((by rw [hg]; exact (below_size sqh) : w.heap.size ≤ gb160)); have GE160 := As_.mk ((by rw [hg]; exact (below_size sqh) : w.heap.size ≤ gb160)); replace HB := As_.mk (below_step sqh hb); have NB158_160 := As_.mk ((by rw [hg]; exact Nat.ne_of_lt (blk_lt (bo BK158)) : gb158 ≠ gb160)); have NB160_158 := As_.mk ((by rw [hg]; exact Nat.ne_of_gt (blk_lt (bo BK158)) : gb160 ≠ gb158)); replace BK158 := As_.mk (blk_below (bo BK158) hb); have NB159_160 := As_.mk ((by rw [hg]; exact Nat.ne_of_lt (blk_lt (bo BK159)) : gb159 ≠ gb160)); have NB160_159 := As_.mk ((by rw [hg]; exact Nat.ne_of_gt (blk_lt (bo BK159)) : gb160 ≠ gb159)); replace BK159 := As_.mk (blk_below (bo BK159) hb); clear hb hbox hg; have hnb7 := NB158_159.out; have hnc7 := NB159_158.out; have hnb8 := NB158_160.out; have hnc8 := NB160_158.out; obtain ⟨hcz9_0, hcz9_1, hcz9_2, hfz9_0, hfz9_1, hfz9_2⟩ := sd3 BK158.out; have hnb10 := NB159_160.out; have hnc10 := NB160_159.out; obtain ⟨hcz11_0, hcz11_1, hcz11_2, hcz11_3, hcz11_4, hcz11_5, hfz11_0, hfz11_1, hfz11_2, hfz11_3, hfz11_4, hfz11_5⟩ := sd6 BK159.out))
 (try simp only [Act.put, List.setIfInBounds_toArray, List.set_cons_zero, List.set_cons_succ])
 go_cut [24] (fun v24 wc => ∃ (kq : Nat) (x24_2 : Bool), v24 = .bool x24_2 ∧ As_ (impl_StateFact.j0 kq x24_2 a0_0 l0_1 a0_2 a1_0 a1_1 a1_2 a0_0 a1_4 a1_5 = some (r1, r2, r3, r4, r5, r6, r7, r8)) ∧ As_ (kq ≤ k) ∧ As_ (wc.heap[gb158]? = some (.cells #[.int .i64 a0_0, (.slice A0_1 l0_1.length c0_1), .int .i64 a0_2] 48 (0, 0))) ∧ As_ (wc.heap[gb159]? = some (.cells #[.int .i64 a1_0, .int .i64 a1_1, .int .i64 a1_2, .int .i64 a0_0, .int .i64 a1_4, .int .i64 a1_5] 55 (0, 0))) ∧ As_ (wc.heap[gb160]? = some (.cells #[.int .i64 0, .int .i64 0, .int .i64 0, .int .i64 0, .int .i64 0, .int .i64 0, .int .i64 0] 76 (0, 0))) ∧ As_ (Below w.heap.size w wc))
 case first =>
  have H := HC3.out
  clear HC3
  obtain ⟨t161, A12, H⟩ := bA H
  by_cases c13 : t161 = true
  ·subst c13
   replace H := iT H
   obtain ⟨t162, A14, H⟩ := bA H
   by_cases c15 : t162 = true
   ·subst c15
    replace H := iT H
    obtain ⟨t163, A16, H⟩ := bA H
    have H' := As_.mk H
    clear H
    have hnb17 := NB158_159.out
    have hnc17 := NB159_158.out
    have hnb18 := NB158_160.out
    have hnc18 := NB160_158.out
    obtain ⟨hcz19_0, hcz19_1, hcz19_2, hfz19_0, hfz19_1, hfz19_2⟩ := sd3 BK158.out
    go_wp2_with (first | ((with_reducible refine gate_callee (f := 33) rfl ?_); refine goesL_ (some 10) rfl rfl Try.func33 sqk rfl #[.agg #[.int .i64 a0_0, .slice A0_1 l0_1.length c0_1, .int .i64 a0_2]] rfl sqm ?_; (with_reducible refine (impl_IsIssuer.calls k a0_0 _ _ l0_1 a0_2 true _ ?side1 ?side2 A12.out).mono ?_); (case side1 => exact Kd.C_below HR0_1.out sqh); (case side2 => exact HC0_1.out); rintro e w20 ⟨rfl, hb⟩; refine ⟨_, rfl, ?_⟩; replace BK158 := As_.mk (blk_below (g := gb158) (o := .cells #[.int .i64 a0_0, .slice A0_1 l0_1.length c0_1, .int .i64 a0_2] 48 (0, 0)) (bp BK158) hb); replace BK159 := As_.mk (blk_below (g := gb159) (o := .cells #[.int .i64 a1_0, .int .i64 a1_1, .int .i64 a1_2, .int .i64 a0_0, .int .i64 a1_4, .int .i64 a1_5] 55 (0, 0)) (bp BK159) hb); replace BK160 := As_.mk (blk_below (g := gb160) (o := .cells #[.int .i64 0, .int .i64 0, .int .i64 0, .int .i64 0, .int .i64 0, .int .i64 0, .int .i64 0] 76 (0, 0)) (bp BK160) hb); replace HB := As_.mk (below_step sqh hb); (try clear hb); have hnb21 := NB159_160.out; have hnc21 := NB160_159.out; obtain ⟨hcz22_0, hcz22_1, hcz22_2, hcz22_3, hcz22_4, hcz22_5, hfz22_0, hfz22_1, hfz22_2, hfz22_3, hfz22_4, hfz22_5⟩ := sd6 BK159.out) | (go_at_call 61; (with_reducible refine (impl_IsFact.calls a1_0 a1_1 a1_2 a0_0 a1_4 a1_5 true _ A14.out).mono ?_); rintro e w23 ⟨rfl, hb⟩; replace BK158 := As_.mk (blk_below (bo BK158) hb); replace BK159 := As_.mk (blk_below (bo BK159) hb); replace BK160 := As_.mk (blk_below (bo BK160) hb); replace HB := As_.mk (below_step sqh hb); (try clear hb); obtain ⟨hcz24_0, hcz24_1, hcz24_2, hfz24_0, hfz24_1, hfz24_2⟩ := sd3 BK158.out; obtain ⟨hcz25_0, hcz25_1, hcz25_2, hcz25_3, hcz25_4, hcz25_5, hfz25_0, hfz25_1, hfz25_2, hfz25_3, hfz25_4, hfz25_5⟩ := sd6 BK159.out) | (go_at_call 96; (with_reducible refine (slices_Contains_int_int.calls k _ _ l0_1 a1_0 t163 _ ?side1 ?side2 A16.out).mono ?_); (case side1 => exact sqn (Kd.C_below HR0_1.out HB.out)); (case side2 => exact HC0_1.out); rintro e w' ⟨rfl, ⟨nd, rfl⟩⟩))
    go_meet
    case rel => exact ⟨_, (!t163), sqr, H', ⟨sqo⟩, ⟨sqb BK158.out⟩, ⟨sqb BK159.out⟩, ⟨sqb BK160.out⟩, ⟨sqh⟩⟩
   ·replace c15 := Bool.eq_false_iff.mpr c15
    subst c15
    replace H := iF H
    have H' := As_.mk H
    clear H
    have hnb26 := NB158_159.out
    have hnc26 := NB159_158.out
    have hnb27 := NB158_160.out
    have hnc27 := NB160_158.out
    obtain ⟨hcz28_0, hcz28_1, hcz28_2, hfz28_0, hfz28_1, hfz28_2⟩ := sd3 BK158.out
    go_wp2_with (first | ((with_reducible refine gate_callee (f := 33) rfl ?_); refine goesL_ (some 10) rfl rfl Try.func33 sqk rfl #[.agg #[.int .i64 a0_0, .slice A0_1 l0_1.length c0_1, .int .i64 a0_2]] rfl sqm ?_; (with_reducible refine (impl_IsIssuer.calls k a0_0 _ _ l0_1 a0_2 true _ ?side1 ?side2 A12.out).mono ?_); (case side1 => exact Kd.C_below HR0_1.out sqh); (case side2 => exact HC0_1.out); rintro e w29 ⟨rfl, hb⟩; refine ⟨_, rfl, ?_⟩; replace BK158 := As_.mk (blk_below (g := gb158) (o := .cells #[.int .i64 a0_0, .slice A0_1 l0_1.length c0_1, .int .i64 a0_2] 48 (0, 0)) (bp BK158) hb); replace BK159 := As_.mk (blk_below (g := gb159) (o := .cells #[.int .i64 a1_0, .int .i64 a1_1, .int .i64 a1_2, .int .i64 a0_0, .int .i64 a1_4, .int .i64 a1_5] 55 (0, 0)) (bp BK159) hb); replace BK160 := As_.mk (blk_below (g := gb160) (o := .cells #[.int .i64 0, .int .i64 0, .int .i64 0, .int .i64 0, .int .i64 0, .int .i64 0, .int .i64 0] 76 (0, 0)) (bp BK160) hb); replace HB := As_.mk (below_step sqh hb); (try clear hb); have hnb30 := NB159_160.out; have hnc30 := NB160_159.out; obtain ⟨hcz31_0, hcz31_1, hcz31_2, hcz31_3, hcz31_4, hcz31_5, hfz31_0, hfz31_1, hfz31_2, hfz31_3, hfz31_4, hfz31_5⟩ := sd6 BK159.out) | (go_at_call 61; (with_reducible refine (impl_IsFact.calls a1_0 a1_1 a1_2 a0_0 a1_4 a1_5 false _ A14.out).mono ?_); rintro e w32 ⟨rfl, hb⟩; replace BK158 := As_.mk (blk_below (bo BK158) hb); replace BK159 := As_.mk (blk_below (bo BK159) hb); replace BK160 := As_.mk (blk_below (bo BK160) hb); replace HB := As_.mk (below_step sqh hb); (try clear hb)))
    go_meet
    case rel => exact ⟨_, (true), sqr, H', ⟨sqo⟩, ⟨sqb BK158.out⟩, ⟨sqb BK159.out⟩, ⟨sqb BK160.out⟩, ⟨sqh⟩⟩
  ·replace c13 := Bool.eq_false_iff.mpr c13
   subst c13
   replace H := iF H
   have H' := As_.mk H
   clear H
   have hnb33 := NB158_159.out
   have hnc33 := NB159_158.out
   have hnb34 := NB158_160.out
   have hnc34 := NB160_158.out
   obtain ⟨hcz35_0, hcz35_1, hcz35_2, hfz35_0, hfz35_1, hfz35_2⟩ := sd3 BK158.out
   go_wp2_with (first | ((with_reducible refine gate_callee (f := 33) rfl ?_); refine goesL_ (some 10) rfl rfl Try.func33 sqk rfl #[.agg #[.int .i64 a0_0, .slice A0_1 l0_1.length c0_1, .int .i64 a0_2]] rfl sqm ?_; (with_reducible refine (impl_IsIssuer.calls k a0_0 _ _ l0_1 a0_2 false _ ?side1 ?side2 A12.out).mono ?_); (case side1 => exact Kd.C_below HR0_1.out sqh); (case side2 => exact HC0_1.out); rintro e w36 ⟨rfl, hb⟩; refine ⟨_, rfl, ?_⟩; replace BK158 := As_.mk (blk_below (g := gb158) (o := .cells #[.int .i64 a0_0, .slice A0_1 l0_1.length c0_1, .int .i64 a0_2] 48 (0, 0)) (bp BK158) hb); replace BK159 := As_.mk (blk_below (g := gb159) (o := .cells #[.int .i64 a1_0, .int .i64 a1_1, .int .i64 a1_2, .int .i64 a0_0, .int .i64 a1_4, .int .i64 a1_5] 55 (0, 0)) (bp BK159) hb); replace BK160 := As_.mk (blk_below (g := gb160) (o := .cells #[.int .i64 0, .int .i64 0, .int .i64 0, .int .i64 0, .int .i64 0, .int .i64 0, .int .i64 0] 76 (0, 0)) (bp BK160) hb); replace HB := As_.mk (below_step sqh hb); (try clear hb)))
   go_meet
   case rel => exact ⟨_, (true), sqr, H', ⟨sqo⟩, ⟨sqb BK158.out⟩, ⟨sqb BK159.out⟩, ⟨sqb BK160.out⟩, ⟨sqh⟩⟩
 case rest =>
  clear HC3; try clear c1; try clear c2; try clear p2; try clear c3; try clear c5; try clear c7; try clear c8; try clear c10; try clear c13; try clear c15; try clear c17; try clear c18; try clear c21; try clear c26; try clear c27; try clear c30; try clear c33; try clear c34; try clear hcz11_0; try clear hcz11_1; try clear hcz11_2; try clear hcz11_3; try clear hcz11_4; try clear hcz11_5; try clear hcz19_0; try clear hcz19_1; try clear hcz19_2; try clear hcz22_0; try clear hcz22_1; try clear hcz22_2; try clear hcz22_3; try clear hcz22_4; try clear hcz22_5; try clear hcz24_0; try clear hcz24_1; try clear hcz24_2; try clear hcz25_0; try clear hcz25_1; try clear hcz25_2; try clear hcz25_3; try clear hcz25_4; try clear hcz25_5; try clear hcz28_0; try clear hcz28_1; try clear hcz28_2; try clear hcz31_0; try clear hcz31_1; try clear hcz31_2; try clear hcz31_3; try clear hcz31_4; try clear hcz31_5
  try clear hcz35_0; try clear hcz35_1; try clear hcz35_2; try clear hcz9_0; try clear hcz9_1; try clear hcz9_2; try clear hfz11_0; try clear hfz11_1; try clear hfz11_2; try clear hfz11_3; try clear hfz11_4; try clear hfz11_5; try clear hfz19_0; try clear hfz19_1; try clear hfz19_2; try clear hfz22_0; try clear hfz22_1; try clear hfz22_2; try clear hfz22_3; try clear hfz22_4; try clear hfz22_5; try clear hfz24_0; try clear hfz24_1; try clear hfz24_2; try clear hfz25_0; try clear hfz25_1; try clear hfz25_2; try clear hfz25_3; try clear hfz25_4; try clear hfz25_5; try clear hfz28_0; try clear hfz28_1; try clear hfz28_2; try clear hfz31_0; try clear hfz31_1; try clear hfz31_2; try clear hfz31_3; try clear hfz31_4; try clear hfz31_5; try clear hfz35_0; try clear hfz35_1; try clear hfz35_2; try clear hfz9_0; try clear hfz9_1; try clear hfz9_2
  obtain ⟨kq, x24_2, rfl, HA, HJ2, BK158, BK159, BK160, HB⟩ := hcut
  cases kq with
  | zero => exact absurd HA.out (by simp [impl_StateFact.j0])
  | succ kj2 =>
   have H := HA.out
   clear HA
   simp only [impl_StateFact.j0] at H
   by_cases c37 : x24_2 = true
   ·subst c37
    replace H := iT H
    simp only [Option.some.injEq, Prod.mk.injEq] at H
    obtain ⟨rfl, rfl, rfl, rfl, rfl, rfl, rfl, rfl⟩ := H
    have hnb38 := NB160_158.out
    have hnc38 := NB158_160.out
    have hnb39 := NB160_159.out
    have hnc39 := NB159_160.out
    obtain ⟨hcz40_0, hcz40_1, hcz40_2, hcz40_3, hcz40_4, hcz40_5, hcz40_6, hfz40_0, hfz40_1, hfz40_2, hfz40_3, hfz40_4, hfz40_5, hfz40_6⟩ := sd7 BK160.out
    go_wp2
    refine bodyPost_ret (results_ct rfl _ _ gb160 76 #[.int .i64 0, .int .i64 0, .int .i64 0, .int .i64 0, .int .i64 0, .int .i64 0, .int .i64 0] (0, 0) _ rfl ?_ Try.underlying76 rfl sqk) rfl ?_; exact bp BK160
    exact ⟨sqe, sqh⟩
   ·replace c37 := Bool.eq_false_iff.mpr c37
    subst c37
    replace H := iF H
    obtain ⟨t164, A41, H⟩ := bA H
    obtain ⟨t167, A42, H⟩ := bA H
    simp only [Option.some.injEq, Prod.mk.injEq] at H
    obtain ⟨rfl, rfl, rfl, rfl, rfl, rfl, rfl, rfl⟩ := H
    try go_wp2
    replace BK158 := As_.mk (blk_drew BK158.out)
    replace BK159 := As_.mk (blk_drew BK159.out)
    replace BK160 := As_.mk (blk_drew BK160.out)
    replace HB := As_.mk (bD_ HB.out)
    refine start_ (n := 9) (S := fun w' => w'.cell? ⟨gb159, 0, none⟩ = some (.int .i64 a1_0) ∧ w'.cell? ⟨gb159, 1, none⟩ = some (.int .i64 a1_1) ∧ w'.cell? ⟨gb159, 2, none⟩ = some (.int .i64 a1_2) ∧ w'.cell? ⟨gb159, 3, none⟩ = some (.int .i64 a0_0) ∧ w'.cell? ⟨gb159, 4, none⟩ = some (.int .i64 a1_4) ∧ w'.cell? ⟨gb159, 5, none⟩ = some (.int .i64 a1_5) ∧ w'.cell? ⟨gb158, 0, none⟩ = some (.int .i64 a0_0) ∧ w'.cell? ⟨gb158, 1, none⟩ = some (.slice A0_1 l0_1.length c0_1) ∧ w'.cell? ⟨gb158, 2, none⟩ = some (.int .i64 a0_2)) (ds := []) #[false, false, false, false, false, false, false, false, false] sqk rfl rfl (sa6 BK159.out (sc3 BK158.out)) (fun hHeld => ?_); refine with_tabW impl_StateFact.tab4 impl_StateFact.bits4 (fun HT_ HW_ => ?_)
    generalize wc.drew = w43 at BK158 BK159 BK160 HB hHeld ⊢
    refine pu 1 27 ?_; refine ta 0 26 ?_; refine ta 2 28 ?_; refine ta 3 29 ?_
    refine on 4 (some 30) (fun K hK => ?_)
    refine goes_ Try.func97 sqk rfl #[.agg #[.int .i64 a1_0, .int .i64 a1_1, .int .i64 a1_2, .int .i64 a0_0, .int .i64 a1_4, .int .i64 a1_5]] (by rfl) rfl rfl sqm ?_
    with_reducible refine (impl_FactInts.calls a1_0 a1_1 a1_2 a0_0 a1_4 a1_5 t164 _ A41.out).mono ?_
    rintro e w44 ⟨v165, rfl, ho0, hb⟩
    refine ⟨_, rfl, ?_⟩
    have HO166 := As_.mk (Kd.R_lower ho0 (below_size sqh))
    replace BK158 := As_.mk (blk_below (bo BK158) hb)
    replace BK159 := As_.mk (blk_below (bo BK159) hb)
    replace BK160 := As_.mk (blk_below (bo BK160) hb)
    replace HB := As_.mk (below_step sqh hb)
    (try clear hb)
    (try clear hb2)
    (try clear hk)
    (try clear hi)
    (try clear ho0)
    obtain ⟨Ao45, co45, eo45⟩ := Kd.R_slice HO166.out
    (first | subst eo45 | (injection eo45 with f1_ f2_ f3_; have f4_ := f1_.symm; have f5_ := f3_.symm; clear f1_ f2_ f3_; subst f4_; subst f5_))
    refine hK.out _ _ (sa6 BK159.out (sc3 BK158.out)) (fun hHeld => ?_)
    clear hK K; refine no 30 ?_
    refine on 5 (some 31) (fun K hK => ?_)
    refine goes_ Try.func86 sqk rfl #[.int .i64 a0_2, .slice Ao45 t164.length co45] (by rfl) rfl rfl sqm ?_
    with_reducible refine (impl_KeyedHash.calls kj2 a0_2 (fun k_ => some k_ = (.slice Ao45 t164.length co45 : Value).ownBlock) _ _ t164 t167 _ ?side1 A42.out).mono ?_
    (case side1 => exact Kd.R_V (Kd.R_tight rfl (Kd.R_types (Kd.R_types (Kd.R_types (HO166.out) BK158.out (by decide)) BK159.out (by decide)) BK160.out (by decide))))
    rintro e w46 ⟨rfl, hb⟩
    refine ⟨_, rfl, ?_⟩
    replace HO166 := As_.mk (Kd.R_below (sqq HO166.out) hb)
    replace BK158 := As_.mk (blk_below (bo BK158) hb)
    replace BK159 := As_.mk (blk_below (bo BK159) hb)
    replace BK160 := As_.mk (blk_below (bo BK160) hb)
    replace HB := As_.mk (below_step sqh hb)
    (try clear hb)
    (try clear hb2)
    (try clear hk)
    (try clear hi)
    refine hK.out _ _ (sa6 BK159.out (sc3 BK158.out)) (fun hHeld => ?_)
    clear hK K; refine no 31 ?_; refine pu 6 32 ?_
    refine on 7 none (fun K hK => ?_)
    obtain ⟨hs47, hfs47⟩ := sd1 BK160.out
    have hns47_0 := NB158_160.out
    have hns47_1 := NB159_160.out
    have hms47_0 := NB160_158.out
    have hms47_1 := NB160_159.out
    have hs48 : w46.cell? ⟨gb160, 1, none⟩ = some (.int .i64 0) := (bC_ BK160.out 1).trans rfl
    have hfs48 := bF_ BK160.out 1
    have hns48_0 := NB158_160.out
    have hns48_1 := NB159_160.out
    have hms48_0 := NB160_158.out
    have hms48_1 := NB160_159.out
    have hs49 : w46.cell? ⟨gb160, 2, none⟩ = some (.int .i64 0) := (bC_ BK160.out 2).trans rfl
    have hfs49 := bF_ BK160.out 2
    have hns49_0 := NB158_160.out
    have hns49_1 := NB159_160.out
    have hms49_0 := NB160_158.out
    have hms49_1 := NB160_159.out
    have hs50 : w46.cell? ⟨gb160, 3, none⟩ = some (.int .i64 0) := (bC_ BK160.out 3).trans rfl
    have hfs50 := bF_ BK160.out 3
    have hns50_0 := NB158_160.out
    have hns50_1 := NB159_160.out
    have hms50_0 := NB160_158.out
    have hms50_1 := NB160_159.out
    have hs51 : w46.cell? ⟨gb160, 4, none⟩ = some (.int .i64 0) := (bC_ BK160.out 4).trans rfl
    have hfs51 := bF_ BK160.out 4
    have hns51_0 := NB158_160.out
    have hns51_1 := NB159_160.out
    have hms51_0 := NB160_158.out
    have hms51_1 := NB160_159.out
    have hs52 : w46.cell? ⟨gb160, 5, none⟩ = some (.int .i64 0) := (bC_ BK160.out 5).trans rfl
    have hfs52 := bF_ BK160.out 5
    have hns52_0 := NB158_160.out
    have hns52_1 := NB159_160.out
    have hms52_0 := NB160_158.out
    have hms52_1 := NB160_159.out
    have hs53 : w46.cell? ⟨gb160, 6, none⟩ = some (.int .i64 0) := (bC_ BK160.out 6).trans rfl
    have hfs53 := bF_ BK160.out 6
    have hns53_0 := NB158_160.out
    have hns53_1 := NB159_160.out
    have hms53_0 := NB160_158.out
    have hms53_1 := NB160_159.out
    refine skip_ (w1 := ?_) (by rfl) rfl ?_ ?_
    rotate_left
    ·go_simp
     rfl
    refine hK.out _ _ ⟨((cell_far (p := ⟨gb160, _, none⟩) NB159_160.out _).trans (((cell_far (p := ⟨gb160, _, none⟩) NB159_160.out _).trans (((cell_far (p := ⟨gb160, _, none⟩) NB159_160.out _).trans (((cell_far (p := ⟨gb160, _, none⟩) NB159_160.out _).trans (((cell_far (p := ⟨gb160, _, none⟩) NB159_160.out _).trans (((cell_far (p := ⟨gb160, _, none⟩) NB159_160.out _).trans (((cell_far (p := ⟨gb160, _, none⟩) NB159_160.out _).trans (hHeld.1)))))))))))))), ((cell_far (p := ⟨gb160, _, none⟩) NB159_160.out _).trans (((cell_far (p := ⟨gb160, _, none⟩) NB159_160.out _).trans (((cell_far (p := ⟨gb160, _, none⟩) NB159_160.out _).trans (((cell_far (p := ⟨gb160, _, none⟩) NB159_160.out _).trans (((cell_far (p := ⟨gb160, _, none⟩) NB159_160.out _).trans (((cell_far (p := ⟨gb160, _, none⟩) NB159_160.out _).trans (((cell_far (p := ⟨gb160, _, none⟩) NB159_160.out _).trans (hHeld.2.1)))))))))))))), ((cell_far (p := ⟨gb160, _, none⟩) NB159_160.out _).trans (((cell_far (p := ⟨gb160, _, none⟩) NB159_160.out _).trans (((cell_far (p := ⟨gb160, _, none⟩) NB159_160.out _).trans (((cell_far (p := ⟨gb160, _, none⟩) NB159_160.out _).trans (((cell_far (p := ⟨gb160, _, none⟩) NB159_160.out _).trans (((cell_far (p := ⟨gb160, _, none⟩) NB159_160.out _).trans (((cell_far (p := ⟨gb160, _, none⟩) NB159_160.out _).trans (hHeld.2.2.1)))))))))))))), ((cell_far (p := ⟨gb160, _, none⟩) NB159_160.out _).trans (((cell_far (p := ⟨gb160, _, none⟩) NB159_160.out _).trans (((cell_far (p := ⟨gb160, _, none⟩) NB159_160.out _).trans (((cell_far (p := ⟨gb160, _, none⟩) NB159_160.out _).trans (((cell_far (p := ⟨gb160, _, none⟩) NB159_160.out _).trans (((cell_far (p := ⟨gb160, _, none⟩) NB159_160.out _).trans (((cell_far (p := ⟨gb160, _, none⟩) NB159_160.out _).trans (hHeld.2.2.2.1)))))))))))))), ((cell_far (p := ⟨gb160, _, none⟩) NB159_160.out _).trans (((cell_far (p := ⟨gb160, _, none⟩) NB159_160.out _).trans (((cell_far (p := ⟨gb160, _, none⟩) NB159_160.out _).trans (((cell_far (p := ⟨gb160, _, none⟩) NB159_160.out _).trans (((cell_far (p := ⟨gb160, _, none⟩) NB159_160.out _).trans (((cell_far (p := ⟨gb160, _, none⟩) NB159_160.out _).trans (((cell_far (p := ⟨gb160, _, none⟩) NB159_160.out _).trans (hHeld.2.2.2.2.1)))))))))))))), ((cell_far (p := ⟨gb160, _, none⟩) NB159_160.out _).trans (((cell_far (p := ⟨gb160, _, none⟩) NB159_160.out _).trans (((cell_far (p := ⟨gb160, _, none⟩) NB159_160.out _).trans (((cell_far (p := ⟨gb160, _, none⟩) NB159_160.out _).trans (((cell_far (p := ⟨gb160, _, none⟩) NB159_160.out _).trans (((cell_far (p := ⟨gb160, _, none⟩) NB159_160.out _).trans (((cell_far (p := ⟨gb160, _, none⟩) NB159_160.out _).trans (hHeld.2.2.2.2.2.1)))))))))))))), ((cell_far (p := ⟨gb160, _, none⟩) NB158_160.out _).trans (((cell_far (p := ⟨gb160, _, none⟩) NB158_160.out _).trans (((cell_far (p := ⟨gb160, _, none⟩) NB158_160.out _).trans (((cell_far (p := ⟨gb160, _, none⟩) NB158_160.out _).trans (((cell_far (p := ⟨gb160, _, none⟩) NB158_160.out _).trans (((cell_far (p := ⟨gb160, _, none⟩) NB158_160.out _).trans (((cell_far (p := ⟨gb160, _, none⟩) NB158_160.out _).trans (hHeld.2.2.2.2.2.2.1)))))))))))))), ((cell_far (p := ⟨gb160, _, none⟩) NB158_160.out _).trans (((cell_far (p := ⟨gb160, _, none⟩) NB158_160.out _).trans (((cell_far (p := ⟨gb160, _, none⟩) NB158_160.out _).trans (((cell_far (p := ⟨gb160, _, none⟩) NB158_160.out _).trans (((cell_far (p := ⟨gb160, _, none⟩) NB158_160.out _).trans (((cell_far (p := ⟨gb160, _, none⟩) NB158_160.out _).trans (((cell_far (p := ⟨gb160, _, none⟩) NB158_160.out _).trans (hHeld.2.2.2.2.2.2.2.1)))))))))))))), ((cell_far (p := ⟨gb160, _, none⟩) NB158_160.out _).trans (((cell_far (p := ⟨gb160, _, none⟩) NB158_160.out _).trans (((cell_far (p := ⟨gb160, _, none⟩) NB158_160.out _).trans (((cell_far (p := ⟨gb160, _, none⟩) NB158_160.out _).trans (((cell_far (p := ⟨gb160, _, none⟩) NB158_160.out _).trans (((cell_far (p := ⟨gb160, _, none⟩) NB158_160.out _).trans (((cell_far (p := ⟨gb160, _, none⟩) NB158_160.out _).trans (hHeld.2.2.2.2.2.2.2.2))))))))))))))⟩ (fun hHeld => ?_)
    clear hK K; refine pu 8 5 ?_
    refine dn ?_
    try go_wp2
    refine bodyPost_ret (results_ct rfl _ _ gb160 76 #[.int .i64 a1_0, .int .i64 a1_1, .int .i64 a1_2, .int .i64 a0_0, .int .i64 a1_4, .int .i64 a1_5, .int .i64 t167] (0, 0) _ rfl ?_ Try.underlying76 rfl sqk) rfl ?_; exact bp BK160
    exact ⟨sqe, sqh⟩

end Go.Proofs.Ytabpgiebhgkfhaa.XFnIssuers
