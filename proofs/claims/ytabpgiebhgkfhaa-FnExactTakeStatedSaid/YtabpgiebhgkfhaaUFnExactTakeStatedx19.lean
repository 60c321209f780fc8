/- Written by this session's own program (wip/xprint, which runs over the kit's print): what the functions that the law reaches come to, each proved; and the law's row. Conditions: none. -/
import Derived.Test.YtabpgiebhgkfhaaUFnExactTakeStatedSq
import Derived.Test.YtabpgiebhgkfhaaUFnExactTakeStatedx0
import Derived.Test.YtabpgiebhgkfhaaUFnExactTakeStatedx18
namespace Go.Proofs.Ytabpgiebhgkfhaa.XFnExactTakeStated
open Go.RowKit Go.Proofs.YtabpgiebhgkfhaaW.PrintWords Go.Proofs.YtabpgiebhgkfhaaW.PrintLast Go.Proofs.YtabpgiebhgkfhaaW.PrintMore Go.Proofs.YtabpgiebhgkfhaaSq
attribute [local go_sem] max2_int min2_int max_two min_two max_three min_three max_four min_four   -- for this text's walks alone
set_option linter.unusedVariables false
set_option linter.unusedSimpArgs false

/-! ### laws_eqIssuer: function 34 -/
def laws_eqIssuer.f (k : Nat) (a0_0 : Int) (l0_1 : List Int) (a0_2 : Int) (a1_0 : Int) (l1_1 : List Int) (a1_2 : Int) : Option (Bool) := if a0_0 = a1_0 then ((laws_eqIntS.f k l0_1 l1_1).bind fun t435 => (if t435 = true then (if a0_2 = a1_2 then (some true) else (some false)) else (some false))) else (some false)
theorem z34_0 {Q : Prop} (g : Q := by rw [hg]; exact (below_size h_)) : Q := g
set_option maxHeartbeats 8000000 in
set_option maxRecDepth 100000 in
theorem laws_eqIssuer.calls (k : Nat) (a0_0 : Int) (A0_1 : Option Addr) (c0_1 : Nat) (l0_1 : List Int) (a0_2 : Int) (a1_0 : Int) (A1_1 : Option Addr) (c1_1 : Nat) (l1_1 : List Int) (a1_2 : Int) (r : Bool) (w : World) (hr0_1 : Kd.C (Kd.int .i64) w A0_1 l0_1.length l0_1) (hc0_1 : l0_1.length ≤ c0_1) (hr1_1 : Kd.C (Kd.int .i64) w A1_1 l1_1.length l1_1) (hc1_1 : l1_1.length ≤ c1_1) (h : laws_eqIssuer.f k a0_0 l0_1 a0_2 a1_0 l1_1 a1_2 = some r) :
  Calls Try.prog 34 #[.agg #[.int .i64 a0_0, .slice A0_1 l0_1.length c0_1, .int .i64 a0_2], .agg #[.int .i64 a1_0, .slice A1_1 l1_1.length c1_1, .int .i64 a1_2]] w fun e w' => e = .returned (.bool r) ∧ Below w.heap.size w w' := by
 have hu48 := Try.underlying48
 have HR0_1 := Aside0.mk hr0_1
 have HC0_1 := Aside0.mk hc0_1
 clear hr0_1 hc0_1
 have HR1_1 := Aside0.mk hr1_1
 have HC1_1 := Aside0.mk hc1_1
 clear hr1_1 hc1_1
 have HB := Aside0.mk (Below.refl w.heap.size w)
 have H : (if a0_0 = a1_0 then ((laws_eqIntS.f k l0_1 l1_1).bind fun t435 => (if t435 = true then (if a0_2 = a1_2 then (some true) else (some false)) else (some false))) else (some false)) = some r := h
 clear h
 by_cases c3 : a0_0 = a1_0
 ·rw [if_pos c3] at H
  have c3b0 : (a0_0 == a1_0) = true := beq_iff_eq.mpr c3
  have c3b1 : (a0_0 != a1_0) = false := bne_eq_false_iff_eq.mpr c3
  clear c3
  obtain ⟨t435, A4, H⟩ := bA H
  by_cases c5 : t435 = true
  ·subst c5
   replace H := iT H
   by_cases c6 : a0_2 = a1_2
   ·rw [if_pos c6] at H
    have c6b0 : (a0_2 == a1_2) = true := beq_iff_eq.mpr c6
    have c6b1 : (a0_2 != a1_2) = false := bne_eq_false_iff_eq.mpr c6
    clear c6
    obtain rfl := Option.some.inj H
    go_enter Try.func34, Try.ntmps34
    go_wp2_with (first | ((with_reducible refine gate_dst (N := 2) rfl ?_); refine bx (N := 2) (cs := #[.int .i64 a0_0, .slice A0_1 l0_1.length c0_1, .int .i64 a0_2]) (t := 48) ?_; intro gb433 hg w7 hbox hb; have BK433 := Aside0.mk (hbox); have GW433 := Aside0.mk ((z34_0 : w.heap.size ≤ gb433)); have GE433 := Aside0.mk ((z34_0 : w.heap.size ≤ gb433)); replace HB := Aside0.mk (below_step h_ hb); clear hb hbox hg) | ((with_reducible refine gate_dst (N := 3) rfl ?_); refine bx (N := 3) (cs := #[.int .i64 a1_0, .slice A1_1 l1_1.length c1_1, .int .i64 a1_2]) (t := 48) ?_; intro gb434 hg w8 hbox hb; have BK434 := Aside0.mk (hbox); have GW434 := Aside0.mk ((z34_0 : w.heap.size ≤ gb434)); have GE434 := Aside0.mk ((z34_0 : w.heap.size ≤ gb434)); replace HB := Aside0.mk (below_step h_ hb); have NB433_434 := Aside0.mk ((by rw [hg]; exact Nat.ne_of_lt (blk_lt (bo BK433)) : gb433 ≠ gb434)); have NB434_433 := Aside0.mk ((by rw [hg]; exact Nat.ne_of_gt (blk_lt (bo BK433)) : gb434 ≠ gb433)); replace BK433 := Aside0.mk (blk_below (bo BK433) hb); clear hb hbox hg; have hnb9 := NB433_434.out; have hnc9 := NB434_433.out; obtain ⟨hcz10_0, hcz10_1, hcz10_2, hfz10_0, hfz10_1, hfz10_2⟩ := d3 BK433.out; obtain ⟨hcz11_0, hcz11_1, hcz11_2, hfz11_0, hfz11_1, hfz11_2⟩ := d3 BK434.out) | ((with_reducible refine gate_callee (f := 78) rfl ?_); refine goesL_ (some 14) rfl rfl Try.func78 k_ rfl #[.slice A0_1 l0_1.length c0_1, .slice A1_1 l1_1.length c1_1] rfl m_ ?_; (with_reducible refine (laws_eqIntS.calls k _ _ l0_1 _ _ l1_1 true _ ?side1 ?side2 ?side3 ?side4 A4.out).mono ?_); (case side1 => exact n_ (Kd.C_below HR0_1.out HB.out)); (case side2 => exact HC0_1.out); (case side3 => exact n_ (Kd.C_below HR1_1.out HB.out)); (case side4 => exact HC1_1.out); rintro e w' ⟨rfl, ⟨nd, rfl⟩⟩; refine ⟨_, rfl, ?_⟩))
    go_ret
    exact ⟨e_, h_⟩
   ·rw [if_neg c6] at H
    have c6b0 : (a0_2 == a1_2) = false := beq_eq_false_iff_ne.mpr c6
    have c6b1 : (a0_2 != a1_2) = true := bne_iff_ne.mpr c6
    obtain rfl := Option.some.inj H
    go_enter Try.func34, Try.ntmps34
    go_wp2_with (first | ((with_reducible refine gate_dst (N := 2) rfl ?_); refine bx (N := 2) (cs := #[.int .i64 a0_0, .slice A0_1 l0_1.length c0_1, .int .i64 a0_2]) (t := 48) ?_; intro gb433 hg w12 hbox hb; have BK433 := Aside0.mk (hbox); have GW433 := Aside0.mk ((z34_0 : w.heap.size ≤ gb433)); have GE433 := Aside0.mk ((z34_0 : w.heap.size ≤ gb433)); replace HB := Aside0.mk (below_step h_ hb); clear hb hbox hg) | ((with_reducible refine gate_dst (N := 3) rfl ?_); refine bx (N := 3) (cs := #[.int .i64 a1_0, .slice A1_1 l1_1.length c1_1, .int .i64 a1_2]) (t := 48) ?_; intro gb434 hg w13 hbox hb; have BK434 := Aside0.mk (hbox); have GW434 := Aside0.mk ((z34_0 : w.heap.size ≤ gb434)); have GE434 := Aside0.mk ((z34_0 : w.heap.size ≤ gb434)); replace HB := Aside0.mk (below_step h_ hb); have NB433_434 := Aside0.mk ((by rw [hg]; exact Nat.ne_of_lt (blk_lt (bo BK433)) : gb433 ≠ gb434)); have NB434_433 := Aside0.mk ((by rw [hg]; exact Nat.ne_of_gt (blk_lt (bo BK433)) : gb434 ≠ gb433)); replace BK433 := Aside0.mk (blk_below (bo BK433) hb); clear hb hbox hg; have hnb14 := NB433_434.out; have hnc14 := NB434_433.out; obtain ⟨hcz15_0, hcz15_1, hcz15_2, hfz15_0, hfz15_1, hfz15_2⟩ := d3 BK433.out; obtain ⟨hcz16_0, hcz16_1, hcz16_2, hfz16_0, hfz16_1, hfz16_2⟩ := d3 BK434.out) | ((with_reducible refine gate_callee (f := 78) rfl ?_); refine goesL_ (some 14) rfl rfl Try.func78 k_ rfl #[.slice A0_1 l0_1.length c0_1, .slice A1_1 l1_1.length c1_1] rfl m_ ?_; (with_reducible refine (laws_eqIntS.calls k _ _ l0_1 _ _ l1_1 true _ ?side1 ?side2 ?side3 ?side4 A4.out).mono ?_); (case side1 => exact n_ (Kd.C_below HR0_1.out HB.out)); (case side2 => exact HC0_1.out); (case side3 => exact n_ (Kd.C_below HR1_1.out HB.out)); (case side4 => exact HC1_1.out); rintro e w' ⟨rfl, ⟨nd, rfl⟩⟩; refine ⟨_, rfl, ?_⟩))
    go_ret
    exact ⟨e_, h_⟩
  ·replace c5 := Bool.eq_false_iff.mpr c5
   subst c5
   replace H := iF H
   obtain rfl := Option.some.inj H
   go_enter Try.func34, Try.ntmps34
   go_wp2_with (first | ((with_reducible refine gate_dst (N := 2) rfl ?_); refine bx (N := 2) (cs := #[.int .i64 a0_0, .slice A0_1 l0_1.length c0_1, .int .i64 a0_2]) (t := 48) ?_; intro gb433 hg w17 hbox hb; have BK433 := Aside0.mk (hbox); have GW433 := Aside0.mk ((z34_0 : w.heap.size ≤ gb433)); have GE433 := Aside0.mk ((z34_0 : w.heap.size ≤ gb433)); replace HB := Aside0.mk (below_step h_ hb); clear hb hbox hg) | ((with_reducible refine gate_dst (N := 3) rfl ?_); refine bx (N := 3) (cs := #[.int .i64 a1_0, .slice A1_1 l1_1.length c1_1, .int .i64 a1_2]) (t := 48) ?_; intro gb434 hg w18 hbox hb; have BK434 := Aside0.mk (hbox); have GW434 := Aside0.mk ((z34_0 : w.heap.size ≤ gb434)); have GE434 := Aside0.mk ((z34_0 : w.heap.size ≤ gb434)); replace HB := Aside0.mk (below_step h_ hb); have NB433_434 := Aside0.mk ((by rw [hg]; exact Nat.ne_of_lt (blk_lt (bo BK433)) : gb433 ≠ gb434)); have NB434_433 := Aside0.mk ((by rw [hg]; exact Nat.ne_of_gt (blk_lt (bo BK433)) : gb434 ≠ gb433)); replace BK433 := Aside0.mk (blk_below (bo BK433) hb); clear hb hbox hg; have hnb19 := NB433_434.out; have hnc19 := NB434_433.out; obtain ⟨hcz20_0, hcz20_1, hcz20_2, hfz20_0, hfz20_1, hfz20_2⟩ := d3 BK433.out; obtain ⟨hcz21_0, hcz21_1, hcz21_2, hfz21_0, hfz21_1, hfz21_2⟩ := d3 BK434.out) | ((with_reducible refine gate_callee (f := 78) rfl ?_); refine goesL_ (some 14) rfl rfl Try.func78 k_ rfl #[.slice A0_1 l0_1.length c0_1, .slice A1_1 l1_1.length c1_1] rfl m_ ?_; (with_reducible refine (laws_eqIntS.calls k _ _ l0_1 _ _ l1_1 false _ ?side1 ?side2 ?side3 ?side4 A4.out).mono ?_); (case side1 => exact n_ (Kd.C_below HR0_1.out HB.out)); (case side2 => exact HC0_1.out); (case side3 => exact n_ (Kd.C_below HR1_1.out HB.out)); (case side4 => exact HC1_1.out); rintro e w' ⟨rfl, ⟨nd, rfl⟩⟩; refine ⟨_, rfl, ?_⟩))
   go_ret
   exact ⟨e_, h_⟩
 ·rw [if_neg c3] at H
  have c3b0 : (a0_0 == a1_0) = false := beq_eq_false_iff_ne.mpr c3
  have c3b1 : (a0_0 != a1_0) = true := bne_iff_ne.mpr c3
  obtain rfl := Option.some.inj H
  go_enter Try.func34, Try.ntmps34
  go_wp2_with (first | ((with_reducible refine gate_dst (N := 2) rfl ?_); refine bx (N := 2) (cs := #[.int .i64 a0_0, .slice A0_1 l0_1.length c0_1, .int .i64 a0_2]) (t := 48) ?_; intro gb433 hg w22 hbox hb; have BK433 := Aside0.mk (hbox); have GW433 := Aside0.mk ((z34_0 : w.heap.size ≤ gb433)); have GE433 := Aside0.mk ((z34_0 : w.heap.size ≤ gb433)); replace HB := Aside0.mk (below_step h_ hb); clear hb hbox hg) | ((with_reducible refine gate_dst (N := 3) rfl ?_); refine bx (N := 3) (cs := #[.int .i64 a1_0, .slice A1_1 l1_1.length c1_1, .int .i64 a1_2]) (t := 48) ?_; intro gb434 hg w23 hbox hb; have BK434 := Aside0.mk (hbox); have GW434 := Aside0.mk ((z34_0 : w.heap.size ≤ gb434)); have GE434 := Aside0.mk ((z34_0 : w.heap.size ≤ gb434)); replace HB := Aside0.mk (below_step h_ hb); have NB433_434 := Aside0.mk ((by rw [hg]; exact Nat.ne_of_lt (blk_lt (bo BK433)) : gb433 ≠ gb434)); have NB434_433 := Aside0.mk ((by rw [hg]; exact Nat.ne_of_gt (blk_lt (bo BK433)) : gb434 ≠ gb433)); replace BK433 := Aside0.mk (blk_below (bo BK433) hb); clear hb hbox hg; have hnb24 := NB433_434.out; have hnc24 := NB434_433.out; obtain ⟨hcz25_0, hcz25_1, hcz25_2, hfz25_0, hfz25_1, hfz25_2⟩ := d3 BK433.out; obtain ⟨hcz26_0, hcz26_1, hcz26_2, hfz26_0, hfz26_1, hfz26_2⟩ := d3 BK434.out))
  go_ret
  exact ⟨e_, h_⟩

/-! ### laws_eqIssuerS: function 24 -/
def laws_eqIssuerS.l0 : Nat → List (S48) → List (S48) → Int → Option (Bool)
 | 0, _, _, _ => none
 | k + 1, x0, x1, x5 => if x5 < (x0.length : Int) then (if 0 ≤ x5 then (if x5 < (x1.length : Int) then ((laws_eqIssuer.f k ((rd_T48 x0 x5).f0) ((rd_T48 x0 x5).f1) ((rd_T48 x0 x5).f2) ((rd_T48 x1 x5).f0) ((rd_T48 x1 x5).f1) ((rd_T48 x1 x5).f2)).bind fun t438 => (if t438 = true then (laws_eqIssuerS.l0 k x0 x1 (wrap64 (x5 + 1))) else (some false))) else (none)) else (none)) else (some true)
def laws_eqIssuerS.f (k : Nat) (l0 : List (S48)) (l1 : List (S48)) : Option (Bool) := if (l0.length : Int) = (l1.length : Int) then (laws_eqIssuerS.l0 k l0 l1 0) else (some false)
def laws_eqIssuerS.T6 : Bool × List (List Nat × List Nat) := (true, [([], []), ([], []), ([0, 1], [0, 1]), ([2], [2]), ([], []), ([], []), ([4, 5], [4, 5]), ([6], [6]), ([3, 7], [3, 7]), ([8], [8])])
def laws_eqIssuerS.B6 : List Nat := [0, 0, 3, 7, 0, 0, 48, 112, 255, 511]
theorem laws_eqIssuerS.tab6 : rtab .any (opsOf Try.f24 6) = laws_eqIssuerS.T6 := by kernel_rfl
theorem laws_eqIssuerS.bits6 : waitsOk laws_eqIssuerS.T6.2 laws_eqIssuerS.B6 = true := by kernel_rfl
set_option maxHeartbeats 8000000 in
set_option maxRecDepth 100000 in
theorem laws_eqIssuerS.calls (k : Nat) (A0 : Option Addr) (c0 : Nat) (l0 : List (S48)) (A1 : Option Addr) (c1 : Nat) (l1 : List (S48)) (r : Bool) (w : World) (hr0 : Kd.C k48 w A0 l0.length l0) (hc0 : l0.length ≤ c0) (hr1 : Kd.C k48 w A1 l1.length l1) (hc1 : l1.length ≤ c1) (h : laws_eqIssuerS.f k l0 l1 = some r) :
  Calls Try.prog 24 #[.slice A0 l0.length c0, .slice A1 l1.length c1] w fun e w' => e = .returned (.bool r) ∧ Below w.heap.size w w' := by
 have hu48 := Try.underlying48
 have HR0 := Aside0.mk hr0
 have HC0 := Aside0.mk hc0
 clear hr0 hc0
 have HR1 := Aside0.mk hr1
 have HC1 := Aside0.mk hc1
 clear hr1 hc1
 have HB := Aside0.mk (Below.refl w.heap.size w)
 have H : (if (l0.length : Int) = (l1.length : Int) then (laws_eqIssuerS.l0 k l0 l1 0) else (some false)) = some r := h
 clear h
 by_cases c3 : (l0.length : Int) = (l1.length : Int)
 ·rw [if_pos c3] at H
  have c3b0 : ((l0.length : Int) == (l1.length : Int)) = true := beq_iff_eq.mpr c3
  have c3b1 : ((l0.length : Int) != (l1.length : Int)) = false := bne_eq_false_iff_eq.mpr c3
  have c3b2 : (l0.length == l1.length) = true := by first | simpa using c3 | (simp at c3 ⊢; omega)
  clear c3
  have H' := Aside0.mk H
  clear H
  go_enter Try.func24, Try.ntmps24
  go_wp2
  go_loopg [5] k (fun kq v5 w' => ∃ (x5_1 : Int), v5 = .int .i64 x5_1 ∧ Aside0 (laws_eqIssuerS.l0 kq l0 l1 x5_1 = some r) ∧ Aside0 (kq ≤ k) ∧ Aside0 (Below w.heap.size w w'))
  case atStart => exact ⟨(0), r_, H', ⟨Nat.le_refl _⟩, ⟨h_⟩⟩
  case round =>
   clear H'; try clear c1; try clear c2; try clear p2; try clear c3; try clear c3b0; try clear c3b1; try clear c3b2
   obtain ⟨x5_1, rfl, HA, HK1, HB⟩ := hrel
   cases gk with
   | zero => exact absurd HA.out (by simp [laws_eqIssuerS.l0])
   | succ k1 =>
    have H := HA.out
    clear HA
    simp only [laws_eqIssuerS.l0] at H
    by_cases c4 : x5_1 < (l0.length : Int)
    ·rw [if_pos c4] at H
     have c4b0 : decide (x5_1 < (l0.length : Int)) = true := decide_eq_true c4
     clear c4
     by_cases c5 : 0 ≤ x5_1
     ·rw [if_pos c5] at H
      have c5b0 : decide (0 ≤ x5_1) = true := decide_eq_true c5
      clear c5
      by_cases c6 : x5_1 < (l1.length : Int)
      ·rw [if_pos c6] at H
       have c6b0 : decide (x5_1 < (l1.length : Int)) = true := decide_eq_true c6
       clear c6
       obtain ⟨t438, A7, H⟩ := bA H
       by_cases c8 : t438 = true
       ·subst c8
        replace H := iT H
        have H' := Aside0.mk H
        clear H
        try go_wp2
        replace HB := Aside0.mk (below_drew1 HB.out)
        have p436 : 0 ≤ (x5_1 : Int) := of_decide_eq_true s_
        have q436 : x5_1 < (l0.length : Int) := of_decide_eq_true s_
        obtain ⟨ad436, A436_1, c436_1, e436, hx436_0, hx436_1, hx436_2, hl436_1, hi436_1⟩ := at_T48 HR0.out x5_1 p436 q436
        have hw436_2 := hx436_2; have hw436_1 := hx436_1; have hw436_0 := hx436_0
        cases e436
        replace hx436_0 := cl HB hx436_0; replace hx436_1 := cl HB hx436_1; replace hx436_2 := cl HB hx436_2
        have HR436_1 := Aside0.mk hi436_1
        have HC436_1 := Aside0.mk hl436_1
        clear hi436_1 hl436_1
        replace p436 := eq_true p436
        replace q436 := eq_true q436
        have p437 : 0 ≤ (x5_1 : Int) := of_decide_eq_true s_
        have q437 : x5_1 < (l1.length : Int) := of_decide_eq_true s_
        obtain ⟨ad437, A437_1, c437_1, e437, hx437_0, hx437_1, hx437_2, hl437_1, hi437_1⟩ := at_T48 HR1.out x5_1 p437 q437
        have hw437_2 := hx437_2; have hw437_1 := hx437_1; have hw437_0 := hx437_0
        cases e437
        replace hx437_0 := cl HB hx437_0; replace hx437_1 := cl HB hx437_1; replace hx437_2 := cl HB hx437_2
        have HR437_1 := Aside0.mk hi437_1
        have HC437_1 := Aside0.mk hl437_1
        clear hi437_1 hl437_1
        replace p437 := eq_true p437
        replace q437 := eq_true q437
        refine start_ (n := 10) (S := fun w' => w'.cell? (ad436.add ((x5_1).toNat * 3)) = some (.int .i64 ((rd_T48 l0 x5_1).f0)) ∧ w'.cell? ⟨(ad436.add ((x5_1).toNat * 3)).block, (ad436.add ((x5_1).toNat * 3)).off + 1, none⟩ = some (.slice A436_1 ((rd_T48 l0 x5_1).f1).length c436_1) ∧ w'.cell? ⟨(ad436.add ((x5_1).toNat * 3)).block, (ad436.add ((x5_1).toNat * 3)).off + 2, none⟩ = some (.int .i64 ((rd_T48 l0 x5_1).f2)) ∧ w'.cell? (ad437.add ((x5_1).toNat * 3)) = some (.int .i64 ((rd_T48 l1 x5_1).f0)) ∧ w'.cell? ⟨(ad437.add ((x5_1).toNat * 3)).block, (ad437.add ((x5_1).toNat * 3)).off + 1, none⟩ = some (.slice A437_1 ((rd_T48 l1 x5_1).f1).length c437_1) ∧ w'.cell? ⟨(ad437.add ((x5_1).toNat * 3)).block, (ad437.add ((x5_1).toNat * 3)).off + 2, none⟩ = some (.int .i64 ((rd_T48 l1 x5_1).f2))) (ds := []) #[false, false, false, false, false, false, false, false, false, false] k_ rfl rfl ⟨(cl HB hw436_0), (cl HB hw436_1), (cl HB hw436_2), (cl HB hw437_0), (cl HB hw437_1), (cl HB hw437_2)⟩ (fun hHeld => ?_); refine with_tabW laws_eqIssuerS.tab6 laws_eqIssuerS.bits6 (fun HT_ HW_ => ?_)
        generalize wr.drew = w9 at HB HR436_1 HR437_1 hx436_0 hx436_1 hx436_2 hx437_0 hx437_1 hx437_2 hHeld ⊢
        refine pu 0 17 ?_; refine pu 1 18 ?_; refine pu 2 19 ?_; refine pu 4 21 ?_; refine pu 5 22 ?_; refine pu 6 23 ?_; refine ta 3 20 ?_; refine ta 7 24 ?_
        refine on 8 (some 25) (fun K hK => ?_)
        refine goes_ Try.func34 k_ rfl #[.agg #[.int .i64 ((rd_T48 l0 x5_1).f0), .slice A436_1 ((rd_T48 l0 x5_1).f1).length c436_1, .int .i64 ((rd_T48 l0 x5_1).f2)], .agg #[.int .i64 ((rd_T48 l1 x5_1).f0), .slice A437_1 ((rd_T48 l1 x5_1).f1).length c437_1, .int .i64 ((rd_T48 l1 x5_1).f2)]] (by rfl) rfl rfl m_ ?_
        with_reducible refine (laws_eqIssuer.calls k1 ((rd_T48 l0 x5_1).f0) _ _ ((rd_T48 l0 x5_1).f1) ((rd_T48 l0 x5_1).f2) ((rd_T48 l1 x5_1).f0) _ _ ((rd_T48 l1 x5_1).f1) ((rd_T48 l1 x5_1).f2) true _ ?side1 ?side2 ?side3 ?side4 A7.out).mono ?_
        (case side1 => repeat (first | exact (Kd.C_below HR436_1.out HB.out) | (with_reducible refine Kd.C_alloc ?_ _) | (with_reducible refine Kd.C_drewN ?_ _) | (with_reducible refine Kd.C_drew ?_)))
        (case side2 => exact HC436_1.out)
        (case side3 => repeat (first | exact (Kd.C_below HR437_1.out HB.out) | (with_reducible refine Kd.C_alloc ?_ _) | (with_reducible refine Kd.C_drewN ?_ _) | (with_reducible refine Kd.C_drew ?_)))
        (case side4 => exact HC437_1.out)
        rintro e w10 ⟨rfl, hb⟩
        refine ⟨_, rfl, ?_⟩
        replace HB := Aside0.mk (below_step h_ hb)
        (try clear hb)
        (try clear hb2)
        (try clear hk)
        (try clear hi)
        refine hK.out _ _ ⟨(cl HB hw436_0), (cl HB hw436_1), (cl HB hw436_2), (cl HB hw437_0), (cl HB hw437_1), (cl HB hw437_2)⟩ (fun hHeld => ?_)
        clear hK K; refine no 25 ?_; refine pu 9 26 ?_
        refine dn ?_
        try go_wp2
        go_roundg k1
        case measure => have := HK1.out; omega
        case rel => exact ⟨(wrap64 (x5_1 + 1)), r_, H', ⟨by have := HK1.out; omega⟩, ⟨h_⟩⟩
       ·replace c8 := Bool.eq_false_iff.mpr c8
        subst c8
        replace H := iF H
        obtain rfl := Option.some.inj H
        try go_wp2
        replace HB := Aside0.mk (below_drew1 HB.out)
        have p436 : 0 ≤ (x5_1 : Int) := of_decide_eq_true s_
        have q436 : x5_1 < (l0.length : Int) := of_decide_eq_true s_
        obtain ⟨ad436, A436_1, c436_1, e436, hx436_0, hx436_1, hx436_2, hl436_1, hi436_1⟩ := at_T48 HR0.out x5_1 p436 q436
        have hw436_2 := hx436_2; have hw436_1 := hx436_1; have hw436_0 := hx436_0
        cases e436
        replace hx436_0 := cl HB hx436_0; replace hx436_1 := cl HB hx436_1; replace hx436_2 := cl HB hx436_2
        have HR436_1 := Aside0.mk hi436_1
        have HC436_1 := Aside0.mk hl436_1
        clear hi436_1 hl436_1
        replace p436 := eq_true p436
        replace q436 := eq_true q436
        have p437 : 0 ≤ (x5_1 : Int) := of_decide_eq_true s_
        have q437 : x5_1 < (l1.length : Int) := of_decide_eq_true s_
        obtain ⟨ad437, A437_1, c437_1, e437, hx437_0, hx437_1, hx437_2, hl437_1, hi437_1⟩ := at_T48 HR1.out x5_1 p437 q437
        have hw437_2 := hx437_2; have hw437_1 := hx437_1; have hw437_0 := hx437_0
        cases e437
        replace hx437_0 := cl HB hx437_0; replace hx437_1 := cl HB hx437_1; replace hx437_2 := cl HB hx437_2
        have HR437_1 := Aside0.mk hi437_1
        have HC437_1 := Aside0.mk hl437_1
        clear hi437_1 hl437_1
        replace p437 := eq_true p437
        replace q437 := eq_true q437
        refine start_ (n := 10) (S := fun w' => w'.cell? (ad436.add ((x5_1).toNat * 3)) = some (.int .i64 ((rd_T48 l0 x5_1).f0)) ∧ w'.cell? ⟨(ad436.add ((x5_1).toNat * 3)).block, (ad436.add ((x5_1).toNat * 3)).off + 1, none⟩ = some (.slice A436_1 ((rd_T48 l0 x5_1).f1).length c436_1) ∧ w'.cell? ⟨(ad436.add ((x5_1).toNat * 3)).block, (ad436.add ((x5_1).toNat * 3)).off + 2, none⟩ = some (.int .i64 ((rd_T48 l0 x5_1).f2)) ∧ w'.cell? (ad437.add ((x5_1).toNat * 3)) = some (.int .i64 ((rd_T48 l1 x5_1).f0)) ∧ w'.cell? ⟨(ad437.add ((x5_1).toNat * 3)).block, (ad437.add ((x5_1).toNat * 3)).off + 1, none⟩ = some (.slice A437_1 ((rd_T48 l1 x5_1).f1).length c437_1) ∧ w'.cell? ⟨(ad437.add ((x5_1).toNat * 3)).block, (ad437.add ((x5_1).toNat * 3)).off + 2, none⟩ = some (.int .i64 ((rd_T48 l1 x5_1).f2))) (ds := []) #[false, false, false, false, false, false, false, false, false, false] k_ rfl rfl ⟨(cl HB hw436_0), (cl HB hw436_1), (cl HB hw436_2), (cl HB hw437_0), (cl HB hw437_1), (cl HB hw437_2)⟩ (fun hHeld => ?_); refine with_tabW laws_eqIssuerS.tab6 laws_eqIssuerS.bits6 (fun HT_ HW_ => ?_)
        generalize wr.drew = w11 at HB HR436_1 HR437_1 hx436_0 hx436_1 hx436_2 hx437_0 hx437_1 hx437_2 hHeld ⊢
        refine pu 0 17 ?_; refine pu 1 18 ?_; refine pu 2 19 ?_; refine pu 4 21 ?_; refine pu 5 22 ?_; refine pu 6 23 ?_; refine ta 3 20 ?_; refine ta 7 24 ?_
        refine on 8 (some 25) (fun K hK => ?_)
        refine goes_ Try.func34 k_ rfl #[.agg #[.int .i64 ((rd_T48 l0 x5_1).f0), .slice A436_1 ((rd_T48 l0 x5_1).f1).length c436_1, .int .i64 ((rd_T48 l0 x5_1).f2)], .agg #[.int .i64 ((rd_T48 l1 x5_1).f0), .slice A437_1 ((rd_T48 l1 x5_1).f1).length c437_1, .int .i64 ((rd_T48 l1 x5_1).f2)]] (by rfl) rfl rfl m_ ?_
        with_reducible refine (laws_eqIssuer.calls k1 ((rd_T48 l0 x5_1).f0) _ _ ((rd_T48 l0 x5_1).f1) ((rd_T48 l0 x5_1).f2) ((rd_T48 l1 x5_1).f0) _ _ ((rd_T48 l1 x5_1).f1) ((rd_T48 l1 x5_1).f2) false _ ?side1 ?side2 ?side3 ?side4 A7.out).mono ?_
        (case side1 => repeat (first | exact (Kd.C_below HR436_1.out HB.out) | (with_reducible refine Kd.C_alloc ?_ _) | (with_reducible refine Kd.C_drewN ?_ _) | (with_reducible refine Kd.C_drew ?_)))
        (case side2 => exact HC436_1.out)
        (case side3 => repeat (first | exact (Kd.C_below HR437_1.out HB.out) | (with_reducible refine Kd.C_alloc ?_ _) | (with_reducible refine Kd.C_drewN ?_ _) | (with_reducible refine Kd.C_drew ?_)))
        (case side4 => exact HC437_1.out)
        rintro e w12 ⟨rfl, hb⟩
        refine ⟨_, rfl, ?_⟩
        replace HB := Aside0.mk (below_step h_ hb)
        (try clear hb)
        (try clear hb2)
        (try clear hk)
        (try clear hi)
        refine hK.out _ _ ⟨(cl HB hw436_0), (cl HB hw436_1), (cl HB hw436_2), (cl HB hw437_0), (cl HB hw437_1), (cl HB hw437_2)⟩ (fun hHeld => ?_)
        clear hK K; refine no 25 ?_; refine pu 9 26 ?_
        refine dn ?_
        try go_wp2
        go_ret
        exact ⟨e_, h_⟩
      ·rw [if_neg c6] at H
       exact absurd H (by simp)
     ·rw [if_neg c5] at H
      exact absurd H (by simp)
    ·rw [if_neg c4] at H
     have c4b0 : decide (x5_1 < (l0.length : Int)) = false := decide_eq_false c4
     clear c4
     obtain rfl := Option.some.inj H
     go_wp2
     go_ret
     exact ⟨e_, h_⟩
 ·rw [if_neg c3] at H
  have c3b0 : ((l0.length : Int) == (l1.length : Int)) = false := beq_eq_false_iff_ne.mpr c3
  have c3b1 : ((l0.length : Int) != (l1.length : Int)) = true := bne_iff_ne.mpr c3
  have c3b2 : (l0.length == l1.length) = false := by first | simpa using c3 | (simp at c3 ⊢; omega)
  obtain rfl := Option.some.inj H
  go_enter Try.func24, Try.ntmps24
  go_wp2
  go_ret
  exact ⟨e_, h_⟩

/-! ### laws_eqStated: function 54 -/
def laws_eqStated.f (a0_0 : Int) (a0_1 : Int) (a0_2 : Int) (a0_3 : Int) (a0_4 : Int) (a0_5 : Int) (a0_6 : Int) (a1_0 : Int) (a1_1 : Int) (a1_2 : Int) (a1_3 : Int) (a1_4 : Int) (a1_5 : Int) (a1_6 : Int) : Option (Bool) := (laws_eqFact.f a0_0 a0_1 a0_2 a0_3 a0_4 a0_5 a1_0 a1_1 a1_2 a1_3 a1_4 a1_5).bind fun t441 => (if t441 = true then (if a0_6 = a1_6 then (some true) else (some false)) else (some false))
theorem z54_0 {Q : Prop} (g : Q := by rw [hg]; exact (below_size h_)) : Q := g
set_option maxHeartbeats 8000000 in
set_option maxRecDepth 100000 in
theorem laws_eqStated.calls (a0_0 : Int) (a0_1 : Int) (a0_2 : Int) (a0_3 : Int) (a0_4 : Int) (a0_5 : Int) (a0_6 : Int) (a1_0 : Int) (a1_1 : Int) (a1_2 : Int) (a1_3 : Int) (a1_4 : Int) (a1_5 : Int) (a1_6 : Int) (r : Bool) (w : World) (h : laws_eqStated.f a0_0 a0_1 a0_2 a0_3 a0_4 a0_5 a0_6 a1_0 a1_1 a1_2 a1_3 a1_4 a1_5 a1_6 = some r) :
  Calls Try.prog 54 #[.agg #[.int .i64 a0_0, .int .i64 a0_1, .int .i64 a0_2, .int .i64 a0_3, .int .i64 a0_4, .int .i64 a0_5, .int .i64 a0_6], .agg #[.int .i64 a1_0, .int .i64 a1_1, .int .i64 a1_2, .int .i64 a1_3, .int .i64 a1_4, .int .i64 a1_5, .int .i64 a1_6]] w fun e w' => e = .returned (.bool r) ∧ Below w.heap.size w w' := by
 have hu76 := Try.underlying76
 have hu55 := Try.underlying55
 have HB := Aside0.mk (Below.refl w.heap.size w)
 have H : ((laws_eqFact.f a0_0 a0_1 a0_2 a0_3 a0_4 a0_5 a1_0 a1_1 a1_2 a1_3 a1_4 a1_5).bind fun t441 => (if t441 = true then (if a0_6 = a1_6 then (some true) else (some false)) else (some false))) = some r := h
 clear h
 obtain ⟨t441, A3, H⟩ := bA H
 by_cases c4 : t441 = true
 ·subst c4
  replace H := iT H
  by_cases c5 : a0_6 = a1_6
  ·rw [if_pos c5] at H
   have c5b0 : (a0_6 == a1_6) = true := beq_iff_eq.mpr c5
   have c5b1 : (a0_6 != a1_6) = false := bne_eq_false_iff_eq.mpr c5
   clear c5
   obtain rfl := Option.some.inj H
   go_enter Try.func54, Try.ntmps54
   go_wp2_with (first | ((with_reducible refine gate_dst (N := 2) rfl ?_); refine bx (N := 2) (cs := #[.int .i64 a0_0, .int .i64 a0_1, .int .i64 a0_2, .int .i64 a0_3, .int .i64 a0_4, .int .i64 a0_5, .int .i64 a0_6]) (t := 76) ?_; intro gb439 hg w6 hbox hb; have BK439 := Aside0.mk (hbox); have GW439 := Aside0.mk ((z54_0 : w.heap.size ≤ gb439)); have GE439 := Aside0.mk ((z54_0 : w.heap.size ≤ gb439)); replace HB := Aside0.mk (below_step h_ hb); clear hb hbox hg) | ((with_reducible refine gate_dst (N := 3) rfl ?_); refine bx (N := 3) (cs := #[.int .i64 a1_0, .int .i64 a1_1, .int .i64 a1_2, .int .i64 a1_3, .int .i64 a1_4, .int .i64 a1_5, .int .i64 a1_6]) (t := 76) ?_; intro gb440 hg w7 hbox hb; have BK440 := Aside0.mk (hbox); have GW440 := Aside0.mk ((z54_0 : w.heap.size ≤ gb440)); have GE440 := Aside0.mk ((z54_0 : w.heap.size ≤ gb440)); replace HB := Aside0.mk (below_step h_ hb); have NB439_440 := Aside0.mk ((by rw [hg]; exact Nat.ne_of_lt (blk_lt (bo BK439)) : gb439 ≠ gb440)); have NB440_439 := Aside0.mk ((by rw [hg]; exact Nat.ne_of_gt (blk_lt (bo BK439)) : gb440 ≠ gb439)); replace BK439 := Aside0.mk (blk_below (bo BK439) hb); clear hb hbox hg; have hnb8 := NB439_440.out; have hnc8 := NB440_439.out; obtain ⟨hcz9_0, hcz9_1, hcz9_2, hcz9_3, hcz9_4, hcz9_5, hcz9_6, hfz9_0, hfz9_1, hfz9_2, hfz9_3, hfz9_4, hfz9_5, hfz9_6⟩ := d7 BK439.out; obtain ⟨hcz10_0, hcz10_1, hcz10_2, hcz10_3, hcz10_4, hcz10_5, hcz10_6, hfz10_0, hfz10_1, hfz10_2, hfz10_3, hfz10_4, hfz10_5, hfz10_6⟩ := d7 BK440.out) | ((with_reducible refine gate_callee (f := 69) rfl ?_); refine goesL_ (some 9) rfl rfl Try.func69 k_ rfl #[.agg #[.int .i64 a0_0, .int .i64 a0_1, .int .i64 a0_2, .int .i64 a0_3, .int .i64 a0_4, .int .i64 a0_5], .agg #[.int .i64 a1_0, .int .i64 a1_1, .int .i64 a1_2, .int .i64 a1_3, .int .i64 a1_4, .int .i64 a1_5]] rfl m_ ?_; (with_reducible refine (laws_eqFact.calls a0_0 a0_1 a0_2 a0_3 a0_4 a0_5 a1_0 a1_1 a1_2 a1_3 a1_4 a1_5 true _ A3.out).mono ?_); rintro e w11 ⟨rfl, hb⟩; refine ⟨_, rfl, ?_⟩; replace BK439 := Aside0.mk (blk_below (bo BK439) hb); replace BK440 := Aside0.mk (blk_below (bo BK440) hb); replace HB := Aside0.mk (below_step h_ hb); (try clear hb); obtain ⟨hcz12_0, hcz12_1, hcz12_2, hcz12_3, hcz12_4, hcz12_5, hcz12_6, hfz12_0, hfz12_1, hfz12_2, hfz12_3, hfz12_4, hfz12_5, hfz12_6⟩ := d7 BK439.out; obtain ⟨hcz13_0, hcz13_1, hcz13_2, hcz13_3, hcz13_4, hcz13_5, hcz13_6, hfz13_0, hfz13_1, hfz13_2, hfz13_3, hfz13_4, hfz13_5, hfz13_6⟩ := d7 BK440.out))
   go_ret
   exact ⟨e_, h_⟩
  ·rw [if_neg c5] at H
   have c5b0 : (a0_6 == a1_6) = false := beq_eq_false_iff_ne.mpr c5
   have c5b1 : (a0_6 != a1_6) = true := bne_iff_ne.mpr c5
   obtain rfl := Option.some.inj H
   go_enter Try.func54, Try.ntmps54
   go_wp2_with (first | ((with_reducible refine gate_dst (N := 2) rfl ?_); refine bx (N := 2) (cs := #[.int .i64 a0_0, .int .i64 a0_1, .int .i64 a0_2, .int .i64 a0_3, .int .i64 a0_4, .int .i64 a0_5, .int .i64 a0_6]) (t := 76) ?_; intro gb439 hg w14 hbox hb; have BK439 := Aside0.mk (hbox); have GW439 := Aside0.mk ((z54_0 : w.heap.size ≤ gb439)); have GE439 := Aside0.mk ((z54_0 : w.heap.size ≤ gb439)); replace HB := Aside0.mk (below_step h_ hb); clear hb hbox hg) | ((with_reducible refine gate_dst (N := 3) rfl ?_); refine bx (N := 3) (cs := #[.int .i64 a1_0, .int .i64 a1_1, .int .i64 a1_2, .int .i64 a1_3, .int .i64 a1_4, .int .i64 a1_5, .int .i64 a1_6]) (t := 76) ?_; intro gb440 hg w15 hbox hb; have BK440 := Aside0.mk (hbox); have GW440 := Aside0.mk ((z54_0 : w.heap.size ≤ gb440)); have GE440 := Aside0.mk ((z54_0 : w.heap.size ≤ gb440)); replace HB := Aside0.mk (below_step h_ hb); have NB439_440 := Aside0.mk ((by rw [hg]; exact Nat.ne_of_lt (blk_lt (bo BK439)) : gb439 ≠ gb440)); have NB440_439 := Aside0.mk ((by rw [hg]; exact Nat.ne_of_gt (blk_lt (bo BK439)) : gb440 ≠ gb439)); replace BK439 := Aside0.mk (blk_below (bo BK439) hb); clear hb hbox hg; have hnb16 := NB439_440.out; have hnc16 := NB440_439.out; obtain ⟨hcz17_0, hcz17_1, hcz17_2, hcz17_3, hcz17_4, hcz17_5, hcz17_6, hfz17_0, hfz17_1, hfz17_2, hfz17_3, hfz17_4, hfz17_5, hfz17_6⟩ := d7 BK439.out; obtain ⟨hcz18_0, hcz18_1, hcz18_2, hcz18_3, hcz18_4, hcz18_5, hcz18_6, hfz18_0, hfz18_1, hfz18_2, hfz18_3, hfz18_4, hfz18_5, hfz18_6⟩ := d7 BK440.out) | ((with_reducible refine gate_callee (f := 69) rfl ?_); refine goesL_ (some 9) rfl rfl Try.func69 k_ rfl #[.agg #[.int .i64 a0_0, .int .i64 a0_1, .int .i64 a0_2, .int .i64 a0_3, .int .i64 a0_4, .int .i64 a0_5], .agg #[.int .i64 a1_0, .int .i64 a1_1, .int .i64 a1_2, .int .i64 a1_3, .int .i64 a1_4, .int .i64 a1_5]] rfl m_ ?_; (with_reducible refine (laws_eqFact.calls a0_0 a0_1 a0_2 a0_3 a0_4 a0_5 a1_0 a1_1 a1_2 a1_3 a1_4 a1_5 true _ A3.out).mono ?_); rintro e w19 ⟨rfl, hb⟩; refine ⟨_, rfl, ?_⟩; replace BK439 := Aside0.mk (blk_below (bo BK439) hb); replace BK440 := Aside0.mk (blk_below (bo BK440) hb); replace HB := Aside0.mk (below_step h_ hb); (try clear hb); obtain ⟨hcz20_0, hcz20_1, hcz20_2, hcz20_3, hcz20_4, hcz20_5, hcz20_6, hfz20_0, hfz20_1, hfz20_2, hfz20_3, hfz20_4, hfz20_5, hfz20_6⟩ := d7 BK439.out; obtain ⟨hcz21_0, hcz21_1, hcz21_2, hcz21_3, hcz21_4, hcz21_5, hcz21_6, hfz21_0, hfz21_1, hfz21_2, hfz21_3, hfz21_4, hfz21_5, hfz21_6⟩ := d7 BK440.out))
   go_ret
   exact ⟨e_, h_⟩
 ·replace c4 := Bool.eq_false_iff.mpr c4
  subst c4
  replace H := iF H
  obtain rfl := Option.some.inj H
  go_enter Try.func54, Try.ntmps54
  go_wp2_with (first | ((with_reducible refine gate_dst (N := 2) rfl ?_); refine bx (N := 2) (cs := #[.int .i64 a0_0, .int .i64 a0_1, .int .i64 a0_2, .int .i64 a0_3, .int .i64 a0_4, .int .i64 a0_5, .int .i64 a0_6]) (t := 76) ?_; intro gb439 hg w22 hbox hb; have BK439 := Aside0.mk (hbox); have GW439 := Aside0.mk ((z54_0 : w.heap.size ≤ gb439)); have GE439 := Aside0.mk ((z54_0 : w.heap.size ≤ gb439)); replace HB := Aside0.mk (below_step h_ hb); clear hb hbox hg) | ((with_reducible refine gate_dst (N := 3) rfl ?_); refine bx (N := 3) (cs := #[.int .i64 a1_0, .int .i64 a1_1, .int .i64 a1_2, .int .i64 a1_3, .int .i64 a1_4, .int .i64 a1_5, .int .i64 a1_6]) (t := 76) ?_; intro gb440 hg w23 hbox hb; have BK440 := Aside0.mk (hbox); have GW440 := Aside0.mk ((z54_0 : w.heap.size ≤ gb440)); have GE440 := Aside0.mk ((z54_0 : w.heap.size ≤ gb440)); replace HB := Aside0.mk (below_step h_ hb); have NB439_440 := Aside0.mk ((by rw [hg]; exact Nat.ne_of_lt (blk_lt (bo BK439)) : gb439 ≠ gb440)); have NB440_439 := Aside0.mk ((by rw [hg]; exact Nat.ne_of_gt (blk_lt (bo BK439)) : gb440 ≠ gb439)); replace BK439 := Aside0.mk (blk_below (bo BK439) hb); clear hb hbox hg; have hnb24 := NB439_440.out; have hnc24 := NB440_439.out; obtain ⟨hcz25_0, hcz25_1, hcz25_2, hcz25_3, hcz25_4, hcz25_5, hcz25_6, hfz25_0, hfz25_1, hfz25_2, hfz25_3, hfz25_4, hfz25_5, hfz25_6⟩ := d7 BK439.out; obtain ⟨hcz26_0, hcz26_1, hcz26_2, hcz26_3, hcz26_4, hcz26_5, hcz26_6, hfz26_0, hfz26_1, hfz26_2, hfz26_3, hfz26_4, hfz26_5, hfz26_6⟩ := d7 BK440.out) | ((with_reducible refine gate_callee (f := 69) rfl ?_); refine goesL_ (some 9) rfl rfl Try.func69 k_ rfl #[.agg #[.int .i64 a0_0, .int .i64 a0_1, .int .i64 a0_2, .int .i64 a0_3, .int .i64 a0_4, .int .i64 a0_5], .agg #[.int .i64 a1_0, .int .i64 a1_1, .int .i64 a1_2, .int .i64 a1_3, .int .i64 a1_4, .int .i64 a1_5]] rfl m_ ?_; (with_reducible refine (laws_eqFact.calls a0_0 a0_1 a0_2 a0_3 a0_4 a0_5 a1_0 a1_1 a1_2 a1_3 a1_4 a1_5 false _ A3.out).mono ?_); rintro e w27 ⟨rfl, hb⟩; refine ⟨_, rfl, ?_⟩; replace BK439 := Aside0.mk (blk_below (bo BK439) hb); replace BK440 := Aside0.mk (blk_below (bo BK440) hb); replace HB := Aside0.mk (below_step h_ hb); (try clear hb)))
  go_ret
  exact ⟨e_, h_⟩

end Go.Proofs.Ytabpgiebhgkfhaa.XFnExactTakeStated
