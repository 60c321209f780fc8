/- Written by this session's own program (wip/xprint, which runs over the kit's print): what the functions that the law reaches come to, each proved; and the law's row. Conditions: none. -/
import Derived.Test.YtabpgiebhgkfhaaUFnIssuersSq
import Derived.Test.YtabpgiebhgkfhaaUFnIssuersx0
import Derived.Test.YtabpgiebhgkfhaaUFnIssuersx10
import Derived.Test.YtabpgiebhgkfhaaUFnIssuersx11
namespace Go.Proofs.Ytabpgiebhgkfhaa.XFnIssuers
open Go.RowKit Go.Proofs.YtabpgiebhgkfhaaW.PrintWords Go.Proofs.YtabpgiebhgkfhaaW.PrintLast Go.Proofs.YtabpgiebhgkfhaaW.PrintMore Go.Proofs.YtabpgiebhgkfhaaSq
attribute [local go_sem] max2_int min2_int max_two min_two max_three min_three max_four min_four   -- for this text's walks alone
set_option linter.unusedVariables false
set_option linter.unusedSimpArgs false

/-! ### spec_StateFact: function 52 -/
mutual
def spec_StateFact.l0 : Nat → Bool → Int → Int → List Int → Int → Int → Int → Int → Int → Int → Int → Option (Int × Int × Int × Int × Int × Int × Int × Bool)
 | 0, _, _, _, _, _, _, _, _, _, _, _ => none
 | k + 1, x6, x7, x279000, x279001, x279002, x280000, x280001, x280002, x280003, x280004, x280005 => if x7 < (x279001.length : Int) then (if x6 = true then (spec_StateFact.l0 k true (wrap64 (x7 + 1)) x279000 x279001 x279002 x280000 x280001 x280002 x280003 x280004 x280005) else (if 0 ≤ x7 then (spec_StateFact.l0 k ((rd x279001 x7) == x280000) (wrap64 (x7 + 1)) x279000 x279001 x279002 x280000 x280001 x280002 x280003 x280004 x280005) else (none))) else ((spec_IsIssuer.f k x279000 x279001 x279002).bind fun t282 => (if t282 = true then ((spec_IsFact.f x280000 x280001 x280002 x280003 x280004 x280005).bind fun t283 => (if t283 = true then (spec_StateFact.j1 k (!x6) x279000 x279001 x279002 x280000 x280001 x280002 x280003 x280004 x280005) else (spec_StateFact.j1 k true x279000 x279001 x279002 x280000 x280001 x280002 x280003 x280004 x280005))) else (spec_StateFact.j1 k true x279000 x279001 x279002 x280000 x280001 x280002 x280003 x280004 x280005)))
def spec_StateFact.j1 : Nat → Bool → Int → List Int → Int → Int → Int → Int → Int → Int → Int → Option (Int × Int × Int × Int × Int × Int × Int × Bool)
 | 0, _, _, _, _, _, _, _, _, _, _ => none
 | k + 1, x40, x279000, x279001, x279002, x280000, x280001, x280002, x280003, x280004, x280005 => if x40 = true then (some (0, 0, 0, 0, 0, 0, 0, false)) else ((spec_FactInts.f x280000 x280001 x280002 x280003 x280004 x280005).bind fun t284 => ((spec_KeyedHash.f k x279002 t284).bind fun t287 => (some (x280000, x280001, x280002, x280003, x280004, x280005, t287, true))))
end
def spec_StateFact.f (k : Nat) (a0_0 : Int) (l0_1 : List Int) (a0_2 : Int) (a1_0 : Int) (a1_1 : Int) (a1_2 : Int) (a1_3 : Int) (a1_4 : Int) (a1_5 : Int) : Option (Int × Int × Int × Int × Int × Int × Int × Bool) := spec_StateFact.l0 k false 0 a0_0 l0_1 a0_2 a1_0 a1_1 a1_2 a0_0 a1_4 a1_5
def spec_StateFact.T6 : Bool × List (List Nat × List Nat) := (true, [([], []), ([0], [0]), ([1], [1]), ([2, 1], [1, 2]), ([1], [1]), ([3, 4, 1], [1, 3, 4]), ([5, 1], [1, 5]), ([1], [1]), ([7, 1], [1, 7]), ([6, 8, 1], [1, 6, 8]), ([1, 9], [1, 9]), ([10, 1, 0, 1, 2, 3, 4, 5, 6, 7, 8, 9, 10], [0, 10])])
def spec_StateFact.B6 : List Nat := [0, 1, 3, 7, 3, 31, 63, 3, 131, 511, 1023, 2047]
theorem spec_StateFact.tab6 : rtab .any (opsOf Try.f52 6) = spec_StateFact.T6 := by kernel_rfl
theorem spec_StateFact.bits6 : waitsOk spec_StateFact.T6.2 spec_StateFact.B6 = true := by kernel_rfl
def spec_StateFact.T9 : Bool × List (List Nat × List Nat) := (true, [([], []), ([], []), ([1], [1]), ([], []), ([3], [3]), ([2, 4, 4], [2, 4]), ([0, 5], [0, 5]), ([6, 5, 0, 1, 2, 3, 4, 5, 6], [6]), ([7, 0, 1, 2, 3, 4, 5, 6, 7], [])])
def spec_StateFact.B9 : List Nat := [0, 0, 2, 0, 8, 30, 63, 127, 255]
theorem spec_StateFact.tab9 : rtab .any (opsOf Try.f52 9) = spec_StateFact.T9 := by kernel_rfl
theorem spec_StateFact.bits9 : waitsOk spec_StateFact.T9.2 spec_StateFact.B9 = true := by kernel_rfl
set_option maxHeartbeats 8000000 in
set_option maxRecDepth 100000 in
theorem spec_StateFact.calls (k : Nat) (a0_0 : Int) (A0_1 : Option Addr) (c0_1 : Nat) (l0_1 : List Int) (a0_2 : Int) (a1_0 : Int) (a1_1 : Int) (a1_2 : Int) (a1_3 : Int) (a1_4 : Int) (a1_5 : Int) (r1 : Int) (r2 : Int) (r3 : Int) (r4 : Int) (r5 : Int) (r6 : Int) (r7 : Int) (r8 : Bool) (w : World) (hr0_1 : Kd.C (Kd.int .i64) w A0_1 l0_1.length l0_1) (hc0_1 : l0_1.length ≤ c0_1) (h : spec_StateFact.f k a0_0 l0_1 a0_2 a1_0 a1_1 a1_2 a1_3 a1_4 a1_5 = some (r1, r2, r3, r4, r5, r6, r7, r8)) :
  Calls Try.prog 52 #[.agg #[.int .i64 a0_0, .slice A0_1 l0_1.length c0_1, .int .i64 a0_2], .agg #[.int .i64 a1_0, .int .i64 a1_1, .int .i64 a1_2, .int .i64 a1_3, .int .i64 a1_4, .int .i64 a1_5]] w fun e w' => e = .returned (.tuple #[.agg #[.int .i64 r1, .int .i64 r2, .int .i64 r3, .int .i64 r4, .int .i64 r5, .int .i64 r6, .int .i64 r7], .bool r8]) ∧ Below w.heap.size w w' := by
 have hu48 := Try.underlying48
 have hu55 := Try.underlying55
 have hu76 := Try.underlying76
 have HR0_1 := As_.mk hr0_1
 have HC0_1 := As_.mk hc0_1
 clear hr0_1 hc0_1
 have HB := As_.mk (Below.refl w.heap.size w)
 have H : (spec_StateFact.l0 k false 0 a0_0 l0_1 a0_2 a1_0 a1_1 a1_2 a0_0 a1_4 a1_5) = some (r1, r2, r3, r4, r5, r6, r7, r8) := h
 clear h
 have H' := As_.mk H
 clear H
 go_enter Try.func52, Try.ntmps52
 go_wp2_with (first | ((with_reducible refine gate_dst (N := 2) rfl ?_); refine bx (N := 2) (cs := #[.int .i64 a0_0, .slice A0_1 l0_1.length c0_1, .int .i64 a0_2]) (t := 48) ?_; intro gb278 hg w3 hbox hb; have BK278 := As_.mk (hbox); have GW278 := As_.mk ((by rw [hg]; exact (below_size sqh) : w.heap.size ≤ gb278)); have GE278 := As_.mk ((by rw [hg]; exact (below_size sqh) : w.heap.size ≤ gb278)); replace HB := As_.mk (below_step sqh hb); clear hb hbox hg) | ((with_reducible refine gate_dst (N := 3) rfl ?_); refine bx (N := 3) (cs := #[.int .i64 a1_0, .int .i64 a1_1, .int .i64 a1_2, .int .i64 a1_3, .int .i64 a1_4, .int .i64 a1_5]) (t := 55) ?_; intro gb279 hg w4 hbox hb; have BK279 := As_.mk (hbox); have GW279 := As_.mk ((by rw [hg]; exact (below_size sqh) : w.heap.size ≤ gb279)); have GE279 := As_.mk ((by rw [hg]; exact (below_size sqh) : w.heap.size ≤ gb279)); replace HB := As_.mk (below_step sqh hb); have NB278_279 := As_.mk ((by rw [hg]; exact Nat.ne_of_lt (blk_lt (bo BK278)) : gb278 ≠ gb279)); have NB279_278 := As_.mk ((by rw [hg]; exact Nat.ne_of_gt (blk_lt (bo BK278)) : gb279 ≠ gb278)); replace BK278 := As_.mk (blk_below (bo BK278) hb); clear hb hbox hg) | ((with_reducible refine gate_dst (N := 4) rfl ?_); refine bx (N := 4) (cs := #[.int .i64 0, .int .i64 0, .int .i64 0, .int .i64 0, .int .i64 0, .int .i64 0, .int .i64 0]) (t := 76) ?_; intro gb280 hg w5 hbox hb; have BK280 := As_.mk (hbox); have GW280 := As_.mk ((by rw [hg]; exact (below_size sqh) : w.heap.size ≤ gb280)); have GE280 := As_.mk ((by rw [hg]; exact (below_size sqh) : w.heap.size ≤ gb280)); replace HB := As_.mk (below_step sqh hb); have NB278_280 := As_.mk ((by rw [hg]; exact Nat.ne_of_lt (blk_lt (bo BK278)) : gb278 ≠ gb280)); have NB280_278 := As_.mk ((by rw [hg]; exact Nat.ne_of_gt (blk_lt (bo BK278)) : gb280 ≠ gb278)); replace BK278 := As_.mk (blk_below (bo BK278) hb); have NB279_280 := As_.mk ((by rw [hg]; exact Nat.ne_of_lt (blk_lt (bo BK279)) : gb279 ≠ gb280)); have NB280_279 := As_.mk ((by rw [hg]; exact Nat.ne_of_gt (blk_lt (bo BK279)) : gb280 ≠ gb279)); replace BK279 := As_.mk (blk_below (bo BK279) hb); clear hb hbox hg; have hnb6 := NB278_279.out; have hnc6 := NB279_278.out; have hnb7 := NB278_280.out; have hnc7 := NB280_278.out; obtain ⟨hcz8_0, hcz8_1, hcz8_2, hfz8_0, hfz8_1, hfz8_2⟩ := sd3 BK278.out; have hnb9 := NB279_280.out; have hnc9 := NB280_279.out; obtain ⟨hcz10_0, hcz10_1, hcz10_2, hcz10_3, hcz10_4, hcz10_5, hfz10_0, hfz10_1, hfz10_2, hfz10_3, hfz10_4, hfz10_5⟩ := sd6 BK279.out))
 go_loopg [6, 7] k (fun kq v6 v7 w' => ∃ (x6_1 : Bool) (x7_1 : Int), v6 = .bool x6_1 ∧ v7 = .int .i64 x7_1 ∧ As_ (spec_StateFact.l0 kq x6_1 x7_1 a0_0 l0_1 a0_2 a1_0 a1_1 a1_2 a0_0 a1_4 a1_5 = some (r1, r2, r3, r4, r5, r6, r7, r8)) ∧ As_ (kq ≤ k) ∧ As_ (w'.heap[gb278]? = some (.cells #[.int .i64 a0_0, (.slice A0_1 l0_1.length c0_1), .int .i64 a0_2] 48 (0, 0))) ∧ As_ (w'.heap[gb279]? = some (.cells #[.int .i64 a1_0, .int .i64 a1_1, .int .i64 a1_2, .int .i64 a0_0, .int .i64 a1_4, .int .i64 a1_5] 55 (0, 0))) ∧ As_ (w'.heap[gb280]? = some (.cells #[.int .i64 0, .int .i64 0, .int .i64 0, .int .i64 0, .int .i64 0, .int .i64 0, .int .i64 0] 76 (0, 0))) ∧ As_ (Below w.heap.size w w'))
 case atStart => exact ⟨(false), (0), sqr, sqr, H', ⟨Nat.le_refl _⟩, ⟨bp BK278⟩, ⟨bp BK279⟩, ⟨bp BK280⟩, ⟨sqh⟩⟩
 case round =>
  clear H'; try clear p2; try clear c5; try clear c6; try clear c7; try clear c9; try clear hcz10_0; try clear hcz10_1; try clear hcz10_2; try clear hcz10_3; try clear hcz10_4; try clear hcz10_5; try clear hcz8_0; try clear hcz8_1; try clear hcz8_2; try clear hfz10_0; try clear hfz10_1; try clear hfz10_2; try clear hfz10_3; try clear hfz10_4; try clear hfz10_5; try clear hfz8_0; try clear hfz8_1; try clear hfz8_2
  obtain ⟨x6_1, x7_1, rfl, rfl, HA, HK1, BK278, BK279, BK280, HB⟩ := hrel
  cases gk with
  | zero => exact absurd HA.out (by simp [spec_StateFact.l0])
  | succ k1 =>
   have H := HA.out
   clear HA
   simp only [spec_StateFact.l0] at H
   by_cases c11 : x7_1 < (l0_1.length : Int)
   ·rw [if_pos c11] at H
    have c11b0 : decide (x7_1 < (l0_1.length : Int)) = true := decide_eq_true c11
    clear c11
    by_cases c12 : x6_1 = true
    ·subst c12
     replace H := iT H
     have H' := As_.mk H
     clear H
     have hnb13 := NB278_279.out
     have hnc13 := NB279_278.out
     have hnb14 := NB278_280.out
     have hnc14 := NB280_278.out
     obtain ⟨hcz15_0, hcz15_1, hcz15_2, hfz15_0, hfz15_1, hfz15_2⟩ := sd3 BK278.out
     try go_wp2
     replace BK278 := As_.mk (blk_drew BK278.out)
     replace BK279 := As_.mk (blk_drew BK279.out)
     replace BK280 := As_.mk (blk_drew BK280.out)
     replace HB := As_.mk (bD_ HB.out)
     refine start_ (n := 12) (S := fun w' => True) (ds := []) #[false, false, false, false, false, false, false, false, false, false, false, false] sqk rfl rfl trivial (fun hHeld => ?_); refine with_tabW spec_StateFact.tab6 spec_StateFact.bits6 (fun HT_ HW_ => ?_)
     generalize wr.drew = w16 at BK278 BK279 BK280 HB hHeld ⊢
     refine pu 0 18 ?_; refine pu 1 19 ?_
     refine pure_ (i := 2) (N := some 20) (v := undef) (a' := ?_) #[true, true, true, false, false, false, false, false, false, false, false, false] rfl rfl (any_of HT_.out sqk) (fun _ _ _ h => h) (Or.inr ⟨by rfl, rfl⟩) ?_ ?_
     rotate_left
     ·simp only [Act.put, List.setIfInBounds_toArray, List.set_cons_zero, List.set_cons_succ, i64_w, i32_w]
      rfl
     refine pure_ (i := 3) (N := some 21) (v := undef) (a' := ?_) #[true, true, true, true, false, false, false, false, false, false, false, false] rfl rfl (any_of HT_.out sqk) (fun _ _ _ h => h) (Or.inr ⟨by rfl, rfl⟩) ?_ ?_
     rotate_left
     ·simp only [Act.put, List.setIfInBounds_toArray, List.set_cons_zero, List.set_cons_succ, i64_w, i32_w]
      rfl
     refine pure_ (i := 4) (N := some 22) (v := undef) (a' := ?_) #[true, true, true, true, true, false, false, false, false, false, false, false] rfl rfl (any_of HT_.out sqk) (fun _ _ _ h => h) (Or.inr ⟨by rfl, rfl⟩) ?_ ?_
     rotate_left
     ·simp only [Act.put, List.setIfInBounds_toArray, List.set_cons_zero, List.set_cons_succ, i64_w, i32_w]
      rfl
     refine pure_ (i := 5) (N := some 23) (v := undef) (a' := ?_) #[true, true, true, true, true, true, false, false, false, false, false, false] rfl rfl (any_of HT_.out sqk) (fun _ _ _ h => h) (Or.inr ⟨by rfl, rfl⟩) ?_ ?_
     rotate_left
     ·simp only [Act.put, List.setIfInBounds_toArray, List.set_cons_zero, List.set_cons_succ, i64_w, i32_w]
      rfl
     refine pure_ (i := 6) (N := some 24) (v := undef) (a' := ?_) #[true, true, true, true, true, true, true, false, false, false, false, false] rfl rfl (any_of HT_.out sqk) (fun _ _ _ h => h) (Or.inr ⟨by rfl, rfl⟩) ?_ ?_
     rotate_left
     ·simp only [Act.put, List.setIfInBounds_toArray, List.set_cons_zero, List.set_cons_succ, i64_w, i32_w]
      rfl
     refine pure_ (i := 7) (N := some 25) (v := undef) (a' := ?_) #[true, true, true, true, true, true, true, true, false, false, false, false] rfl rfl (any_of HT_.out sqk) (fun _ _ _ h => h) (Or.inr ⟨by rfl, rfl⟩) ?_ ?_
     rotate_left
     ·simp only [Act.put, List.setIfInBounds_toArray, List.set_cons_zero, List.set_cons_succ, i64_w, i32_w]
      rfl
     refine pure_ (i := 8) (N := some 26) (v := undef) (a' := ?_) #[true, true, true, true, true, true, true, true, true, false, false, false] rfl rfl (any_of HT_.out sqk) (fun _ _ _ h => h) (Or.inr ⟨by rfl, rfl⟩) ?_ ?_
     rotate_left
     ·simp only [Act.put, List.setIfInBounds_toArray, List.set_cons_zero, List.set_cons_succ, i64_w, i32_w]
      rfl
     refine pure_ (i := 9) (N := some 27) (v := undef) (a' := ?_) #[true, true, true, true, true, true, true, true, true, true, false, false] rfl rfl (any_of HT_.out sqk) (fun _ _ _ h => h) (Or.inr ⟨by rfl, rfl⟩) ?_ ?_
     rotate_left
     ·simp only [Act.put, List.setIfInBounds_toArray, List.set_cons_zero, List.set_cons_succ, i64_w, i32_w]
      rfl
     refine pu 10 28 ?_; refine pu 11 6 ?_
     refine dn ?_
     try go_wp2
     go_roundg k1
     case measure => have := HK1.out; omega
     case rel => exact ⟨(true), (wrap64 (x7_1 + 1)), sqr, sqr, H', ⟨by have := HK1.out; omega⟩, ⟨sqb BK278.out⟩, ⟨sqb BK279.out⟩, ⟨sqb BK280.out⟩, ⟨sqh⟩⟩
    ·replace c12 := Bool.eq_false_iff.mpr c12
     subst c12
     replace H := iF H
     by_cases c17 : 0 ≤ x7_1
     ·rw [if_pos c17] at H
      have c17b0 : decide (0 ≤ x7_1) = true := decide_eq_true c17
      clear c17
      have H' := As_.mk H
      clear H
      have hnb18 := NB278_279.out
      have hnc18 := NB279_278.out
      have hnb19 := NB278_280.out
      have hnc19 := NB280_278.out
      obtain ⟨hcz20_0, hcz20_1, hcz20_2, hfz20_0, hfz20_1, hfz20_2⟩ := sd3 BK278.out
      try go_wp2
      replace BK278 := As_.mk (blk_drew BK278.out)
      replace BK279 := As_.mk (blk_drew BK279.out)
      replace BK280 := As_.mk (blk_drew BK280.out)
      replace HB := As_.mk (bD_ HB.out)
      have p281 : 0 ≤ (x7_1 : Int) := of_decide_eq_true sqs
      have q281 : x7_1 < (l0_1.length : Int) := of_decide_eq_true sqs
      obtain ⟨ad281, e281, hx281_0⟩ := Kd.at_int HR0_1.out x7_1 p281 q281
      have hw281_0 := hx281_0
      cases e281
      replace hx281_0 := cl HB hx281_0
      replace p281 := eq_true p281
      replace q281 := eq_true q281
      refine start_ (n := 12) (S := fun w' => w'.cell? ⟨gb278, 0, none⟩ = some (.int .i64 a0_0) ∧ w'.cell? ⟨gb278, 1, none⟩ = some (.slice (some ad281) l0_1.length c0_1) ∧ w'.cell? ⟨gb278, 2, none⟩ = some (.int .i64 a0_2) ∧ w'.cell? ⟨gb279, 0, none⟩ = some (.int .i64 a1_0) ∧ w'.cell? ⟨gb279, 1, none⟩ = some (.int .i64 a1_1) ∧ w'.cell? ⟨gb279, 2, none⟩ = some (.int .i64 a1_2) ∧ w'.cell? ⟨gb279, 3, none⟩ = some (.int .i64 a0_0) ∧ w'.cell? ⟨gb279, 4, none⟩ = some (.int .i64 a1_4) ∧ w'.cell? ⟨gb279, 5, none⟩ = some (.int .i64 a1_5) ∧ w'.cell? (ad281.add (x7_1).toNat) = some (.int .i64 (rd l0_1 x7_1))) (ds := []) #[false, false, false, false, false, false, false, false, false, false, false, false] sqk rfl rfl (sa3 BK278.out (sa6 BK279.out ((cl HB hw281_0)))) (fun hHeld => ?_); refine with_tabW spec_StateFact.tab6 spec_StateFact.bits6 (fun HT_ HW_ => ?_)
      generalize wr.drew = w21 at BK278 BK279 BK280 HB hx281_0 hHeld ⊢
      refine pu 0 18 ?_; refine pu 1 19 ?_; refine pu 2 20 ?_; refine pu 4 22 ?_; refine pu 7 25 ?_; refine ta 3 21 ?_; refine pu 5 23 ?_; refine ta 6 24 ?_; refine ta 8 26 ?_; refine pu 9 27 ?_; refine pu 10 28 ?_; refine pu 11 6 ?_
      refine dn ?_
      try go_wp2
      go_roundg k1
      case measure => have := HK1.out; omega
      case rel => exact ⟨(((rd l0_1 x7_1) == a1_0)), (wrap64 (x7_1 + 1)), sqr, sqr, H', ⟨by have := HK1.out; omega⟩, ⟨sqb BK278.out⟩, ⟨sqb BK279.out⟩, ⟨sqb BK280.out⟩, ⟨sqh⟩⟩
     ·rw [if_neg c17] at H
      exact absurd H (by simp)
   ·rw [if_neg c11] at H
    have c11b0 : decide (x7_1 < (l0_1.length : Int)) = false := decide_eq_false c11
    clear c11
    have HC22 := As_.mk H
    clear H
    have hnb23 := NB278_279.out
    have hnc23 := NB279_278.out
    have hnb24 := NB278_280.out
    have hnc24 := NB280_278.out
    obtain ⟨hcz25_0, hcz25_1, hcz25_2, hfz25_0, hfz25_1, hfz25_2⟩ := sd3 BK278.out
    go_upto_region 7 with (fail)
    go_cut [40] (fun v40 wc => ∃ (kq : Nat) (x40_21 : Bool), v40 = .bool x40_21 ∧ As_ (spec_StateFact.j1 kq x40_21 a0_0 l0_1 a0_2 a1_0 a1_1 a1_2 a0_0 a1_4 a1_5 = some (r1, r2, r3, r4, r5, r6, r7, r8)) ∧ As_ (kq ≤ k1) ∧ As_ (wc.heap[gb278]? = some (.cells #[.int .i64 a0_0, (.slice A0_1 l0_1.length c0_1), .int .i64 a0_2] 48 (0, 0))) ∧ As_ (wc.heap[gb279]? = some (.cells #[.int .i64 a1_0, .int .i64 a1_1, .int .i64 a1_2, .int .i64 a0_0, .int .i64 a1_4, .int .i64 a1_5] 55 (0, 0))) ∧ As_ (wc.heap[gb280]? = some (.cells #[.int .i64 0, .int .i64 0, .int .i64 0, .int .i64 0, .int .i64 0, .int .i64 0, .int .i64 0] 76 (0, 0))) ∧ As_ (Below w.heap.size w wc))
    case first =>
     have H := HC22.out
     clear HC22
     obtain ⟨t282, A26, H⟩ := bA H
     by_cases c27 : t282 = true
     ·subst c27
      replace H := iT H
      obtain ⟨t283, A28, H⟩ := bA H
      by_cases c29 : t283 = true
      ·subst c29
       replace H := iT H
       have H' := As_.mk H
       clear H
       have hnb30 := NB278_279.out
       have hnc30 := NB279_278.out
       have hnb31 := NB278_280.out
       have hnc31 := NB280_278.out
       obtain ⟨hcz32_0, hcz32_1, hcz32_2, hfz32_0, hfz32_1, hfz32_2⟩ := sd3 BK278.out
       go_wp2_with (first | ((with_reducible refine gate_callee (f := 31) rfl ?_); refine goesL_ (some 30) rfl rfl Try.func31 sqk rfl #[.agg #[.int .i64 a0_0, .slice A0_1 l0_1.length c0_1, .int .i64 a0_2]] rfl sqm ?_; (with_reducible refine (spec_IsIssuer.calls k1 a0_0 _ _ l0_1 a0_2 true _ ?side1 ?side2 A26.out).mono ?_); (case side1 => exact sqn (Kd.C_below HR0_1.out HB.out)); (case side2 => exact HC0_1.out); rintro e w33 ⟨rfl, hb⟩; refine ⟨_, rfl, ?_⟩; replace BK278 := As_.mk (blk_below (bo BK278) hb); replace BK279 := As_.mk (blk_below (bo BK279) hb); replace BK280 := As_.mk (blk_below (bo BK280) hb); replace HB := As_.mk (below_step sqh hb); (try clear hb); have hnb34 := NB279_280.out; have hnc34 := NB280_279.out; obtain ⟨hcz35_0, hcz35_1, hcz35_2, hcz35_3, hcz35_4, hcz35_5, hfz35_0, hfz35_1, hfz35_2, hfz35_3, hfz35_4, hfz35_5⟩ := sd6 BK279.out) | (go_at_call 79; (with_reducible refine (spec_IsFact.calls a1_0 a1_1 a1_2 a0_0 a1_4 a1_5 true _ A28.out).mono ?_); rintro e w36 ⟨rfl, hb⟩; replace BK278 := As_.mk (blk_below (bo BK278) hb); replace BK279 := As_.mk (blk_below (bo BK279) hb); replace BK280 := As_.mk (blk_below (bo BK280) hb); replace HB := As_.mk (below_step sqh hb); (try clear hb)))
       go_meet
       case rel => exact ⟨_, (!x6_1), sqr, H', ⟨by have := HK1.out; first | omega | exact Nat.le_refl _⟩, ⟨sqb BK278.out⟩, ⟨sqb BK279.out⟩, ⟨sqb BK280.out⟩, ⟨sqh⟩⟩
      ·replace c29 := Bool.eq_false_iff.mpr c29
       subst c29
       replace H := iF H
       have H' := As_.mk H
       clear H
       have hnb37 := NB278_279.out
       have hnc37 := NB279_278.out
       have hnb38 := NB278_280.out
       have hnc38 := NB280_278.out
       obtain ⟨hcz39_0, hcz39_1, hcz39_2, hfz39_0, hfz39_1, hfz39_2⟩ := sd3 BK278.out
       go_wp2_with (first | ((with_reducible refine gate_callee (f := 31) rfl ?_); refine goesL_ (some 30) rfl rfl Try.func31 sqk rfl #[.agg #[.int .i64 a0_0, .slice A0_1 l0_1.length c0_1, .int .i64 a0_2]] rfl sqm ?_; (with_reducible refine (spec_IsIssuer.calls k1 a0_0 _ _ l0_1 a0_2 true _ ?side1 ?side2 A26.out).mono ?_); (case side1 => exact sqn (Kd.C_below HR0_1.out HB.out)); (case side2 => exact HC0_1.out); rintro e w40 ⟨rfl, hb⟩; refine ⟨_, rfl, ?_⟩; replace BK278 := As_.mk (blk_below (bo BK278) hb); replace BK279 := As_.mk (blk_below (bo BK279) hb); replace BK280 := As_.mk (blk_below (bo BK280) hb); replace HB := As_.mk (below_step sqh hb); (try clear hb); have hnb41 := NB279_280.out; have hnc41 := NB280_279.out; obtain ⟨hcz42_0, hcz42_1, hcz42_2, hcz42_3, hcz42_4, hcz42_5, hfz42_0, hfz42_1, hfz42_2, hfz42_3, hfz42_4, hfz42_5⟩ := sd6 BK279.out) | (go_at_call 79; (with_reducible refine (spec_IsFact.calls a1_0 a1_1 a1_2 a0_0 a1_4 a1_5 false _ A28.out).mono ?_); rintro e w43 ⟨rfl, hb⟩; replace BK278 := As_.mk (blk_below (bo BK278) hb); replace BK279 := As_.mk (blk_below (bo BK279) hb); replace BK280 := As_.mk (blk_below (bo BK280) hb); replace HB := As_.mk (below_step sqh hb); (try clear hb)))
       go_meet
       case rel => exact ⟨_, (true), sqr, H', ⟨by have := HK1.out; first | omega | exact Nat.le_refl _⟩, ⟨sqb BK278.out⟩, ⟨sqb BK279.out⟩, ⟨sqb BK280.out⟩, ⟨sqh⟩⟩
     ·replace c27 := Bool.eq_false_iff.mpr c27
      subst c27
      replace H := iF H
      have H' := As_.mk H
      clear H
      have hnb44 := NB278_279.out
      have hnc44 := NB279_278.out
      have hnb45 := NB278_280.out
      have hnc45 := NB280_278.out
      obtain ⟨hcz46_0, hcz46_1, hcz46_2, hfz46_0, hfz46_1, hfz46_2⟩ := sd3 BK278.out
      go_wp2_with (first | ((with_reducible refine gate_callee (f := 31) rfl ?_); refine goesL_ (some 30) rfl rfl Try.func31 sqk rfl #[.agg #[.int .i64 a0_0, .slice A0_1 l0_1.length c0_1, .int .i64 a0_2]] rfl sqm ?_; (with_reducible refine (spec_IsIssuer.calls k1 a0_0 _ _ l0_1 a0_2 false _ ?side1 ?side2 A26.out).mono ?_); (case side1 => exact sqn (Kd.C_below HR0_1.out HB.out)); (case side2 => exact HC0_1.out); rintro e w47 ⟨rfl, hb⟩; refine ⟨_, rfl, ?_⟩; replace BK278 := As_.mk (blk_below (bo BK278) hb); replace BK279 := As_.mk (blk_below (bo BK279) hb); replace BK280 := As_.mk (blk_below (bo BK280) hb); replace HB := As_.mk (below_step sqh hb); (try clear hb)))
      go_meet
      case rel => exact ⟨_, (true), sqr, H', ⟨by have := HK1.out; first | omega | exact Nat.le_refl _⟩, ⟨sqb BK278.out⟩, ⟨sqb BK279.out⟩, ⟨sqb BK280.out⟩, ⟨sqh⟩⟩
    case rest =>
     clear HC22; try clear c1; try clear c2; try clear p2; try clear q2; try clear hx2; try clear c3; try clear c4; try clear c5; try clear c6; try clear p6; try clear c7; try clear c9; try clear c11; try clear c11b0; try clear c12; try clear c13; try clear c14; try clear c17; try clear c17b0; try clear c18; try clear c19; try clear c23; try clear c24; try clear c27; try clear p28; try clear q28; try clear hx28; try clear c29; try clear c30; try clear c31; try clear c34; try clear c37; try clear c38; try clear c41; try clear c44; try clear c45; try clear hcz10_0; try clear hcz10_1; try clear hcz10_2; try clear hcz10_3; try clear hcz10_4; try clear hcz10_5; try clear hcz15_0; try clear hcz15_1; try clear hcz15_2; try clear hcz20_0; try clear hcz20_1; try clear hcz20_2; try clear hcz25_0; try clear hcz25_1; try clear hcz25_2; try clear hcz32_0; try clear hcz32_1; try clear hcz32_2; try clear hcz35_0
     try clear hcz35_1; try clear hcz35_2; try clear hcz35_3; try clear hcz35_4; try clear hcz35_5; try clear hcz39_0; try clear hcz39_1; try clear hcz39_2; try clear hcz42_0; try clear hcz42_1; try clear hcz42_2; try clear hcz42_3; try clear hcz42_4; try clear hcz42_5; try clear hcz46_0; try clear hcz46_1; try clear hcz46_2; try clear hcz8_0; try clear hcz8_1; try clear hcz8_2; try clear hfz10_0; try clear hfz10_1; try clear hfz10_2; try clear hfz10_3; try clear hfz10_4; try clear hfz10_5; try clear hfz15_0; try clear hfz15_1; try clear hfz15_2; try clear hfz20_0; try clear hfz20_1; try clear hfz20_2; try clear hfz25_0; try clear hfz25_1; try clear hfz25_2; try clear hfz32_0; try clear hfz32_1; try clear hfz32_2; try clear hfz35_0; try clear hfz35_1; try clear hfz35_2; try clear hfz35_3; try clear hfz35_4; try clear hfz35_5; try clear hfz39_0; try clear hfz39_1; try clear hfz39_2; try clear hfz42_0
     try clear hfz42_1; try clear hfz42_2; try clear hfz42_3; try clear hfz42_4; try clear hfz42_5; try clear hfz46_0; try clear hfz46_1; try clear hfz46_2; try clear hfz8_0; try clear hfz8_1; try clear hfz8_2; try clear hx281_0; try clear p2; try clear p281; try clear q281
     obtain ⟨kq, x40_21, rfl, HA, HJ21, BK278, BK279, BK280, HB⟩ := hcut
     cases kq with
     | zero => exact absurd HA.out (by simp [spec_StateFact.j1])
     | succ kj21 =>
      have H := HA.out
      clear HA
      simp only [spec_StateFact.j1] at H
      by_cases c48 : x40_21 = true
      ·subst c48
       replace H := iT H
       simp only [Option.some.injEq, Prod.mk.injEq] at H
       obtain ⟨rfl, rfl, rfl, rfl, rfl, rfl, rfl, rfl⟩ := H
       have hnb49 := NB280_278.out
       have hnc49 := NB278_280.out
       have hnb50 := NB280_279.out
       have hnc50 := NB279_280.out
       obtain ⟨hcz51_0, hcz51_1, hcz51_2, hcz51_3, hcz51_4, hcz51_5, hcz51_6, hfz51_0, hfz51_1, hfz51_2, hfz51_3, hfz51_4, hfz51_5, hfz51_6⟩ := sd7 BK280.out
       go_wp2
       refine bodyPost_ret (results_ct rfl _ _ gb280 76 #[.int .i64 0, .int .i64 0, .int .i64 0, .int .i64 0, .int .i64 0, .int .i64 0, .int .i64 0] (0, 0) _ rfl ?_ Try.underlying76 rfl sqk) rfl ?_; exact bp BK280
       exact ⟨sqe, sqh⟩
      ·replace c48 := Bool.eq_false_iff.mpr c48
       subst c48
       replace H := iF H
       obtain ⟨t284, A52, H⟩ := bA H
       obtain ⟨t287, A53, H⟩ := bA H
       simp only [Option.some.injEq, Prod.mk.injEq] at H
       obtain ⟨rfl, rfl, rfl, rfl, rfl, rfl, rfl, rfl⟩ := H
       try go_wp2
       replace BK278 := As_.mk (blk_drew BK278.out)
       replace BK279 := As_.mk (blk_drew BK279.out)
       replace BK280 := As_.mk (blk_drew BK280.out)
       replace HB := As_.mk (bD_ HB.out)
       refine start_ (n := 9) (S := fun w' => w'.cell? ⟨gb279, 0, none⟩ = some (.int .i64 a1_0) ∧ w'.cell? ⟨gb279, 1, none⟩ = some (.int .i64 a1_1) ∧ w'.cell? ⟨gb279, 2, none⟩ = some (.int .i64 a1_2) ∧ w'.cell? ⟨gb279, 3, none⟩ = some (.int .i64 a0_0) ∧ w'.cell? ⟨gb279, 4, none⟩ = some (.int .i64 a1_4) ∧ w'.cell? ⟨gb279, 5, none⟩ = some (.int .i64 a1_5) ∧ w'.cell? ⟨gb278, 0, none⟩ = some (.int .i64 a0_0) ∧ w'.cell? ⟨gb278, 1, none⟩ = some (.slice A0_1 l0_1.length c0_1) ∧ w'.cell? ⟨gb278, 2, none⟩ = some (.int .i64 a0_2)) (ds := []) #[false, false, false, false, false, false, false, false, false] sqk rfl rfl (sa6 BK279.out (sc3 BK278.out)) (fun hHeld => ?_); refine with_tabW spec_StateFact.tab9 spec_StateFact.bits9 (fun HT_ HW_ => ?_)
       generalize wc.drew = w54 at BK278 BK279 BK280 HB hHeld ⊢
       refine pu 1 43 ?_; refine ta 0 42 ?_; refine ta 2 44 ?_; refine ta 3 45 ?_
       refine on 4 (some 46) (fun K hK => ?_)
       refine goes_ Try.func95 sqk rfl #[.agg #[.int .i64 a1_0, .int .i64 a1_1, .int .i64 a1_2, .int .i64 a0_0, .int .i64 a1_4, .int .i64 a1_5]] (by rfl) rfl rfl sqm ?_
       with_reducible refine (spec_FactInts.calls a1_0 a1_1 a1_2 a0_0 a1_4 a1_5 t284 _ A52.out).mono ?_
       rintro e w55 ⟨v285, rfl, ho0, hb⟩
       refine ⟨_, rfl, ?_⟩
       have HO286 := As_.mk (Kd.R_lower ho0 (below_size sqh))
       replace BK278 := As_.mk (blk_below (bo BK278) hb)
       replace BK279 := As_.mk (blk_below (bo BK279) hb)
       replace BK280 := As_.mk (blk_below (bo BK280) hb)
       replace HB := As_.mk (below_step sqh hb)
       (try clear hb)
       (try clear hb2)
       (try clear hk)
       (try clear hi)
       (try clear ho0)
       obtain ⟨Ao56, co56, eo56⟩ := Kd.R_slice HO286.out
       (first | subst eo56 | (injection eo56 with f1_ f2_ f3_; have f4_ := f1_.symm; have f5_ := f3_.symm; clear f1_ f2_ f3_; subst f4_; subst f5_))
       refine hK.out _ _ (sa6 BK279.out (sc3 BK278.out)) (fun hHeld => ?_)
       clear hK K; refine no 46 ?_
       refine on 5 (some 47) (fun K hK => ?_)
       refine goes_ Try.func85 sqk rfl #[.int .i64 a0_2, .slice Ao56 t284.length co56] (by rfl) rfl rfl sqm ?_
       with_reducible refine (spec_KeyedHash.calls kj21 a0_2 _ _ t284 t287 _ ?side1 ?side2 A53.out).mono ?_
       (case side1 => repeat (first | exact (Kd.R_reads' HO286.out).2.2 | (with_reducible refine Kd.C_alloc ?_ _) | (with_reducible refine Kd.C_drewN ?_ _) | (with_reducible refine Kd.C_drew ?_)))
       (case side2 => exact (Kd.R_reads' HO286.out).2.1)
       rintro e w57 ⟨rfl, hb⟩
       refine ⟨_, rfl, ?_⟩
       replace HO286 := As_.mk (Kd.R_below (sqq HO286.out) hb)
       replace BK278 := As_.mk (blk_below (bo BK278) hb)
       replace BK279 := As_.mk (blk_below (bo BK279) hb)
       replace BK280 := As_.mk (blk_below (bo BK280) hb)
       replace HB := As_.mk (below_step sqh hb)
       (try clear hb)
       (try clear hb2)
       (try clear hk)
       (try clear hi)
       refine hK.out _ _ (sa6 BK279.out (sc3 BK278.out)) (fun hHeld => ?_)
       clear hK K; refine no 47 ?_; refine pu 6 48 ?_
       refine on 7 none (fun K hK => ?_)
       obtain ⟨hs58, hfs58⟩ := sd1 BK280.out
       have hns58_0 := NB278_280.out
       have hns58_1 := NB279_280.out
       have hms58_0 := NB280_278.out
       have hms58_1 := NB280_279.out
       have hs59 : w57.cell? ⟨gb280, 1, none⟩ = some (.int .i64 0) := (bC_ BK280.out 1).trans rfl
       have hfs59 := bF_ BK280.out 1
       have hns59_0 := NB278_280.out
       have hns59_1 := NB279_280.out
       have hms59_0 := NB280_278.out
       have hms59_1 := NB280_279.out
       have hs60 : w57.cell? ⟨gb280, 2, none⟩ = some (.int .i64 0) := (bC_ BK280.out 2).trans rfl
       have hfs60 := bF_ BK280.out 2
       have hns60_0 := NB278_280.out
       have hns60_1 := NB279_280.out
       have hms60_0 := NB280_278.out
       have hms60_1 := NB280_279.out
       have hs61 : w57.cell? ⟨gb280, 3, none⟩ = some (.int .i64 0) := (bC_ BK280.out 3).trans rfl
       have hfs61 := bF_ BK280.out 3
       have hns61_0 := NB278_280.out
       have hns61_1 := NB279_280.out
       have hms61_0 := NB280_278.out
       have hms61_1 := NB280_279.out
       have hs62 : w57.cell? ⟨gb280, 4, none⟩ = some (.int .i64 0) := (bC_ BK280.out 4).trans rfl
       have hfs62 := bF_ BK280.out 4
       have hns62_0 := NB278_280.out
       have hns62_1 := NB279_280.out
       have hms62_0 := NB280_278.out
       have hms62_1 := NB280_279.out
       have hs63 : w57.cell? ⟨gb280, 5, none⟩ = some (.int .i64 0) := (bC_ BK280.out 5).trans rfl
       have hfs63 := bF_ BK280.out 5
       have hns63_0 := NB278_280.out
       have hns63_1 := NB279_280.out
       have hms63_0 := NB280_278.out
       have hms63_1 := NB280_279.out
       have hs64 : w57.cell? ⟨gb280, 6, none⟩ = some (.int .i64 0) := (bC_ BK280.out 6).trans rfl
       have hfs64 := bF_ BK280.out 6
       have hns64_0 := NB278_280.out
       have hns64_1 := NB279_280.out
       have hms64_0 := NB280_278.out
       have hms64_1 := NB280_279.out
       refine skip_ (w1 := ?_) (by rfl) rfl ?_ ?_
       rotate_left
       ·go_simp
        rfl
       refine hK.out _ _ ⟨((cell_far (p := ⟨gb280, _, none⟩) NB279_280.out _).trans (((cell_far (p := ⟨gb280, _, none⟩) NB279_280.out _).trans (((cell_far (p := ⟨gb280, _, none⟩) NB279_280.out _).trans (((cell_far (p := ⟨gb280, _, none⟩) NB279_280.out _).trans (((cell_far (p := ⟨gb280, _, none⟩) NB279_280.out _).trans (((cell_far (p := ⟨gb280, _, none⟩) NB279_280.out _).trans (((cell_far (p := ⟨gb280, _, none⟩) NB279_280.out _).trans (hHeld.1)))))))))))))), ((cell_far (p := ⟨gb280, _, none⟩) NB279_280.out _).trans (((cell_far (p := ⟨gb280, _, none⟩) NB279_280.out _).trans (((cell_far (p := ⟨gb280, _, none⟩) NB279_280.out _).trans (((cell_far (p := ⟨gb280, _, none⟩) NB279_280.out _).trans (((cell_far (p := ⟨gb280, _, none⟩) NB279_280.out _).trans (((cell_far (p := ⟨gb280, _, none⟩) NB279_280.out _).trans (((cell_far (p := ⟨gb280, _, none⟩) NB279_280.out _).trans (hHeld.2.1)))))))))))))), ((cell_far (p := ⟨gb280, _, none⟩) NB279_280.out _).trans (((cell_far (p := ⟨gb280, _, none⟩) NB279_280.out _).trans (((cell_far (p := ⟨gb280, _, none⟩) NB279_280.out _).trans (((cell_far (p := ⟨gb280, _, none⟩) NB279_280.out _).trans (((cell_far (p := ⟨gb280, _, none⟩) NB279_280.out _).trans (((cell_far (p := ⟨gb280, _, none⟩) NB279_280.out _).trans (((cell_far (p := ⟨gb280, _, none⟩) NB279_280.out _).trans (hHeld.2.2.1)))))))))))))), ((cell_far (p := ⟨gb280, _, none⟩) NB279_280.out _).trans (((cell_far (p := ⟨gb280, _, none⟩) NB279_280.out _).trans (((cell_far (p := ⟨gb280, _, none⟩) NB279_280.out _).trans (((cell_far (p := ⟨gb280, _, none⟩) NB279_280.out _).trans (((cell_far (p := ⟨gb280, _, none⟩) NB279_280.out _).trans (((cell_far (p := ⟨gb280, _, none⟩) NB279_280.out _).trans (((cell_far (p := ⟨gb280, _, none⟩) NB279_280.out _).trans (hHeld.2.2.2.1)))))))))))))), ((cell_far (p := ⟨gb280, _, none⟩) NB279_280.out _).trans (((cell_far (p := ⟨gb280, _, none⟩) NB279_280.out _).trans (((cell_far (p := ⟨gb280, _, none⟩) NB279_280.out _).trans (((cell_far (p := ⟨gb280, _, none⟩) NB279_280.out _).trans (((cell_far (p := ⟨gb280, _, none⟩) NB279_280.out _).trans (((cell_far (p := ⟨gb280, _, none⟩) NB279_280.out _).trans (((cell_far (p := ⟨gb280, _, none⟩) NB279_280.out _).trans (hHeld.2.2.2.2.1)))))))))))))), ((cell_far (p := ⟨gb280, _, none⟩) NB279_280.out _).trans (((cell_far (p := ⟨gb280, _, none⟩) NB279_280.out _).trans (((cell_far (p := ⟨gb280, _, none⟩) NB279_280.out _).trans (((cell_far (p := ⟨gb280, _, none⟩) NB279_280.out _).trans (((cell_far (p := ⟨gb280, _, none⟩) NB279_280.out _).trans (((cell_far (p := ⟨gb280, _, none⟩) NB279_280.out _).trans (((cell_far (p := ⟨gb280, _, none⟩) NB279_280.out _).trans (hHeld.2.2.2.2.2.1)))))))))))))), ((cell_far (p := ⟨gb280, _, none⟩) NB278_280.out _).trans (((cell_far (p := ⟨gb280, _, none⟩) NB278_280.out _).trans (((cell_far (p := ⟨gb280, _, none⟩) NB278_280.out _).trans (((cell_far (p := ⟨gb280, _, none⟩) NB278_280.out _).trans (((cell_far (p := ⟨gb280, _, none⟩) NB278_280.out _).trans (((cell_far (p := ⟨gb280, _, none⟩) NB278_280.out _).trans (((cell_far (p := ⟨gb280, _, none⟩) NB278_280.out _).trans (hHeld.2.2.2.2.2.2.1)))))))))))))), ((cell_far (p := ⟨gb280, _, none⟩) NB278_280.out _).trans (((cell_far (p := ⟨gb280, _, none⟩) NB278_280.out _).trans (((cell_far (p := ⟨gb280, _, none⟩) NB278_280.out _).trans (((cell_far (p := ⟨gb280, _, none⟩) NB278_280.out _).trans (((cell_far (p := ⟨gb280, _, none⟩) NB278_280.out _).trans (((cell_far (p := ⟨gb280, _, none⟩) NB278_280.out _).trans (((cell_far (p := ⟨gb280, _, none⟩) NB278_280.out _).trans (hHeld.2.2.2.2.2.2.2.1)))))))))))))), ((cell_far (p := ⟨gb280, _, none⟩) NB278_280.out _).trans (((cell_far (p := ⟨gb280, _, none⟩) NB278_280.out _).trans (((cell_far (p := ⟨gb280, _, none⟩) NB278_280.out _).trans (((cell_far (p := ⟨gb280, _, none⟩) NB278_280.out _).trans (((cell_far (p := ⟨gb280, _, none⟩) NB278_280.out _).trans (((cell_far (p := ⟨gb280, _, none⟩) NB278_280.out _).trans (((cell_far (p := ⟨gb280, _, none⟩) NB278_280.out _).trans (hHeld.2.2.2.2.2.2.2.2))))))))))))))⟩ (fun hHeld => ?_)
       clear hK K; refine pu 8 5 ?_
       refine dn ?_
       try go_wp2
       refine bodyPost_ret (results_ct rfl _ _ gb280 76 #[.int .i64 a1_0, .int .i64 a1_1, .int .i64 a1_2, .int .i64 a0_0, .int .i64 a1_4, .int .i64 a1_5, .int .i64 t287] (0, 0) _ rfl ?_ Try.underlying76 rfl sqk) rfl ?_; exact bp BK280
       exact ⟨sqe, sqh⟩

end Go.Proofs.Ytabpgiebhgkfhaa.XFnIssuers
