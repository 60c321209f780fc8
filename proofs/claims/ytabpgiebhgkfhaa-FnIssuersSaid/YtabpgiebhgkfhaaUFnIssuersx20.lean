/- Written by this session's own program (wip/xprint, which runs over the kit's print): what the functions that the law reaches come to, each proved; and the law's row. Conditions: none. -/
import Derived.Test.YtabpgiebhgkfhaaUFnIssuersSq
import Derived.Test.YtabpgiebhgkfhaaUFnIssuersx0
namespace Go.Proofs.Ytabpgiebhgkfhaa.XFnIssuers
open Go.RowKit Go.Proofs.YtabpgiebhgkfhaaW.PrintWords Go.Proofs.YtabpgiebhgkfhaaW.PrintLast Go.Proofs.YtabpgiebhgkfhaaW.PrintMore Go.Proofs.YtabpgiebhgkfhaaSq
attribute [local go_sem] max2_int min2_int max_two min_two max_three min_three max_four min_four   -- for this text's walks alone
set_option linter.unusedVariables false
set_option linter.unusedSimpArgs false

/-! ### spec_SameClaim: function 109 -/
def spec_SameClaim.f (a0_0 : Int) (a0_1 : Int) (a0_2 : Int) (a0_3 : Int) (a0_4 : Int) (a0_5 : Int) (a1_0 : Int) (a1_1 : Int) (a1_2 : Int) (a1_3 : Int) (a1_4 : Int) (a1_5 : Int) : Option (Bool) := if a0_0 = a1_0 then (if a0_1 = a1_1 then (if a0_2 = a1_2 then (some (a0_3 == a1_3)) else (some false)) else (some false)) else (some false)
theorem z109_0 {Q : Prop} (g : Q := by rw [hg]; exact (below_size sqh)) : Q := g
set_option maxHeartbeats 8000000 in
set_option maxRecDepth 100000 in
theorem spec_SameClaim.calls (a0_0 : Int) (a0_1 : Int) (a0_2 : Int) (a0_3 : Int) (a0_4 : Int) (a0_5 : Int) (a1_0 : Int) (a1_1 : Int) (a1_2 : Int) (a1_3 : Int) (a1_4 : Int) (a1_5 : Int) (r : Bool) (w : World) (h : spec_SameClaim.f a0_0 a0_1 a0_2 a0_3 a0_4 a0_5 a1_0 a1_1 a1_2 a1_3 a1_4 a1_5 = some r) :
  Calls Try.prog 109 #[.agg #[.int .i64 a0_0, .int .i64 a0_1, .int .i64 a0_2, .int .i64 a0_3, .int .i64 a0_4, .int .i64 a0_5], .agg #[.int .i64 a1_0, .int .i64 a1_1, .int .i64 a1_2, .int .i64 a1_3, .int .i64 a1_4, .int .i64 a1_5]] w fun e w' => e = .returned (.bool r) ∧ Below w.heap.size w w' := by
 have hu55 := Try.underlying55
 have HB := As_.mk (Below.refl w.heap.size w)
 have H : (if a0_0 = a1_0 then (if a0_1 = a1_1 then (if a0_2 = a1_2 then (some (a0_3 == a1_3)) else (some false)) else (some false)) else (some false)) = some r := h
 clear h
 by_cases c3 : a0_0 = a1_0
 ·rw [if_pos c3] at H
  have c3b0 : (a0_0 == a1_0) = true := beq_iff_eq.mpr c3
  have c3b1 : (a0_0 != a1_0) = false := bne_eq_false_iff_eq.mpr c3
  clear c3
  by_cases c4 : a0_1 = a1_1
  ·rw [if_pos c4] at H
   have c4b0 : (a0_1 == a1_1) = true := beq_iff_eq.mpr c4
   have c4b1 : (a0_1 != a1_1) = false := bne_eq_false_iff_eq.mpr c4
   clear c4
   by_cases c5 : a0_2 = a1_2
   ·rw [if_pos c5] at H
    have c5b0 : (a0_2 == a1_2) = true := beq_iff_eq.mpr c5
    have c5b1 : (a0_2 != a1_2) = false := bne_eq_false_iff_eq.mpr c5
    clear c5
    obtain rfl := Option.some.inj H
    go_enter Try.func109, Try.ntmps109
    go_wp2_with (first | ((with_reducible refine gate_dst (N := 2) rfl ?_); refine bx (N := 2) (cs := #[.int .i64 a0_0, .int .i64 a0_1, .int .i64 a0_2, .int .i64 a0_3, .int .i64 a0_4, .int .i64 a0_5]) (t := 55) ?_; intro gb563 hg w6 hbox hb; have BK563 := As_.mk (hbox); have GW563 := As_.mk ((z109_0 : w.heap.size ≤ gb563)); have GE563 := As_.mk ((z109_0 : w.heap.size ≤ gb563)); replace HB := As_.mk (below_step sqh hb); clear hb hbox hg) | ((with_reducible refine gate_dst (N := 3) rfl ?_); refine bx (N := 3) (cs := #[.int .i64 a1_0, .int .i64 a1_1, .int .i64 a1_2, .int .i64 a1_3, .int .i64 a1_4, .int .i64 a1_5]) (t := 55) ?_; intro gb564 hg w7 hbox hb; have BK564 := As_.mk (hbox); have GW564 := As_.mk ((z109_0 : w.heap.size ≤ gb564)); have GE564 := As_.mk ((z109_0 : w.heap.size ≤ gb564)); replace HB := As_.mk (below_step sqh hb); have NB563_564 := As_.mk ((by rw [hg]; exact Nat.ne_of_lt (blk_lt (bo BK563)) : gb563 ≠ gb564)); have NB564_563 := As_.mk ((by rw [hg]; exact Nat.ne_of_gt (blk_lt (bo BK563)) : gb564 ≠ gb563)); replace BK563 := As_.mk (blk_below (bo BK563) hb); clear hb hbox hg; have hnb8 := NB563_564.out; have hnc8 := NB564_563.out; obtain ⟨hcz9_0, hcz9_1, hcz9_2, hcz9_3, hcz9_4, hcz9_5, hfz9_0, hfz9_1, hfz9_2, hfz9_3, hfz9_4, hfz9_5⟩ := sd6 BK563.out; obtain ⟨hcz10_0, hcz10_1, hcz10_2, hcz10_3, hcz10_4, hcz10_5, hfz10_0, hfz10_1, hfz10_2, hfz10_3, hfz10_4, hfz10_5⟩ := sd6 BK564.out))
    go_ret
    exact ⟨sqe, sqh⟩
   ·rw [if_neg c5] at H
    have c5b0 : (a0_2 == a1_2) = false := beq_eq_false_iff_ne.mpr c5
    have c5b1 : (a0_2 != a1_2) = true := bne_iff_ne.mpr c5
    obtain rfl := Option.some.inj H
    go_enter Try.func109, Try.ntmps109
    go_wp2_with (first | ((with_reducible refine gate_dst (N := 2) rfl ?_); refine bx (N := 2) (cs := #[.int .i64 a0_0, .int .i64 a0_1, .int .i64 a0_2, .int .i64 a0_3, .int .i64 a0_4, .int .i64 a0_5]) (t := 55) ?_; intro gb563 hg w11 hbox hb; have BK563 := As_.mk (hbox); have GW563 := As_.mk ((z109_0 : w.heap.size ≤ gb563)); have GE563 := As_.mk ((z109_0 : w.heap.size ≤ gb563)); replace HB := As_.mk (below_step sqh hb); clear hb hbox hg) | ((with_reducible refine gate_dst (N := 3) rfl ?_); refine bx (N := 3) (cs := #[.int .i64 a1_0, .int .i64 a1_1, .int .i64 a1_2, .int .i64 a1_3, .int .i64 a1_4, .int .i64 a1_5]) (t := 55) ?_; intro gb564 hg w12 hbox hb; have BK564 := As_.mk (hbox); have GW564 := As_.mk ((z109_0 : w.heap.size ≤ gb564)); have GE564 := As_.mk ((z109_0 : w.heap.size ≤ gb564)); replace HB := As_.mk (below_step sqh hb); have NB563_564 := As_.mk ((by rw [hg]; exact Nat.ne_of_lt (blk_lt (bo BK563)) : gb563 ≠ gb564)); have NB564_563 := As_.mk ((by rw [hg]; exact Nat.ne_of_gt (blk_lt (bo BK563)) : gb564 ≠ gb563)); replace BK563 := As_.mk (blk_below (bo BK563) hb); clear hb hbox hg; have hnb13 := NB563_564.out; have hnc13 := NB564_563.out; obtain ⟨hcz14_0, hcz14_1, hcz14_2, hcz14_3, hcz14_4, hcz14_5, hfz14_0, hfz14_1, hfz14_2, hfz14_3, hfz14_4, hfz14_5⟩ := sd6 BK563.out; obtain ⟨hcz15_0, hcz15_1, hcz15_2, hcz15_3, hcz15_4, hcz15_5, hfz15_0, hfz15_1, hfz15_2, hfz15_3, hfz15_4, hfz15_5⟩ := sd6 BK564.out))
    go_ret
    exact ⟨sqe, sqh⟩
  ·rw [if_neg c4] at H
   have c4b0 : (a0_1 == a1_1) = false := beq_eq_false_iff_ne.mpr c4
   have c4b1 : (a0_1 != a1_1) = true := bne_iff_ne.mpr c4
   obtain rfl := Option.some.inj H
   go_enter Try.func109, Try.ntmps109
   go_wp2_with (first | ((with_reducible refine gate_dst (N := 2) rfl ?_); refine bx (N := 2) (cs := #[.int .i64 a0_0, .int .i64 a0_1, .int .i64 a0_2, .int .i64 a0_3, .int .i64 a0_4, .int .i64 a0_5]) (t := 55) ?_; intro gb563 hg w16 hbox hb; have BK563 := As_.mk (hbox); have GW563 := As_.mk ((z109_0 : w.heap.size ≤ gb563)); have GE563 := As_.mk ((z109_0 : w.heap.size ≤ gb563)); replace HB := As_.mk (below_step sqh hb); clear hb hbox hg) | ((with_reducible refine gate_dst (N := 3) rfl ?_); refine bx (N := 3) (cs := #[.int .i64 a1_0, .int .i64 a1_1, .int .i64 a1_2, .int .i64 a1_3, .int .i64 a1_4, .int .i64 a1_5]) (t := 55) ?_; intro gb564 hg w17 hbox hb; have BK564 := As_.mk (hbox); have GW564 := As_.mk ((z109_0 : w.heap.size ≤ gb564)); have GE564 := As_.mk ((z109_0 : w.heap.size ≤ gb564)); replace HB := As_.mk (below_step sqh hb); have NB563_564 := As_.mk ((by rw [hg]; exact Nat.ne_of_lt (blk_lt (bo BK563)) : gb563 ≠ gb564)); have NB564_563 := As_.mk ((by rw [hg]; exact Nat.ne_of_gt (blk_lt (bo BK563)) : gb564 ≠ gb563)); replace BK563 := As_.mk (blk_below (bo BK563) hb); clear hb hbox hg; have hnb18 := NB563_564.out; have hnc18 := NB564_563.out; obtain ⟨hcz19_0, hcz19_1, hcz19_2, hcz19_3, hcz19_4, hcz19_5, hfz19_0, hfz19_1, hfz19_2, hfz19_3, hfz19_4, hfz19_5⟩ := sd6 BK563.out; obtain ⟨hcz20_0, hcz20_1, hcz20_2, hcz20_3, hcz20_4, hcz20_5, hfz20_0, hfz20_1, hfz20_2, hfz20_3, hfz20_4, hfz20_5⟩ := sd6 BK564.out))
   go_ret
   exact ⟨sqe, sqh⟩
 ·rw [if_neg c3] at H
  have c3b0 : (a0_0 == a1_0) = false := beq_eq_false_iff_ne.mpr c3
  have c3b1 : (a0_0 != a1_0) = true := bne_iff_ne.mpr c3
  obtain rfl := Option.some.inj H
  go_enter Try.func109, Try.ntmps109
  go_wp2_with (first | ((with_reducible refine gate_dst (N := 2) rfl ?_); refine bx (N := 2) (cs := #[.int .i64 a0_0, .int .i64 a0_1, .int .i64 a0_2, .int .i64 a0_3, .int .i64 a0_4, .int .i64 a0_5]) (t := 55) ?_; intro gb563 hg w21 hbox hb; have BK563 := As_.mk (hbox); have GW563 := As_.mk ((z109_0 : w.heap.size ≤ gb563)); have GE563 := As_.mk ((z109_0 : w.heap.size ≤ gb563)); replace HB := As_.mk (below_step sqh hb); clear hb hbox hg) | ((with_reducible refine gate_dst (N := 3) rfl ?_); refine bx (N := 3) (cs := #[.int .i64 a1_0, .int .i64 a1_1, .int .i64 a1_2, .int .i64 a1_3, .int .i64 a1_4, .int .i64 a1_5]) (t := 55) ?_; intro gb564 hg w22 hbox hb; have BK564 := As_.mk (hbox); have GW564 := As_.mk ((z109_0 : w.heap.size ≤ gb564)); have GE564 := As_.mk ((z109_0 : w.heap.size ≤ gb564)); replace HB := As_.mk (below_step sqh hb); have NB563_564 := As_.mk ((by rw [hg]; exact Nat.ne_of_lt (blk_lt (bo BK563)) : gb563 ≠ gb564)); have NB564_563 := As_.mk ((by rw [hg]; exact Nat.ne_of_gt (blk_lt (bo BK563)) : gb564 ≠ gb563)); replace BK563 := As_.mk (blk_below (bo BK563) hb); clear hb hbox hg; have hnb23 := NB563_564.out; have hnc23 := NB564_563.out; obtain ⟨hcz24_0, hcz24_1, hcz24_2, hcz24_3, hcz24_4, hcz24_5, hfz24_0, hfz24_1, hfz24_2, hfz24_3, hfz24_4, hfz24_5⟩ := sd6 BK563.out; obtain ⟨hcz25_0, hcz25_1, hcz25_2, hcz25_3, hcz25_4, hcz25_5, hfz25_0, hfz25_1, hfz25_2, hfz25_3, hfz25_4, hfz25_5⟩ := sd6 BK564.out))
  go_ret
  exact ⟨sqe, sqh⟩

end Go.Proofs.Ytabpgiebhgkfhaa.XFnIssuers
