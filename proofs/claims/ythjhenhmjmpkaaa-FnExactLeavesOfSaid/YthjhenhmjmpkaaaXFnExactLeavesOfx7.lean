/- Written by this session's own program (wip/xprint, which runs over the kit's print): what the functions that the law reaches come to, each proved; and the law's row. Conditions: none. -/
import Derived.Test.YthjhenhmjmpkaaaXFnExactLeavesOfx0
import Derived.Test.YthjhenhmjmpkaaaXFnExactLeavesOfx1
import Derived.Test.YthjhenhmjmpkaaaXFnExactLeavesOfx3
import Derived.Test.YthjhenhmjmpkaaaXFnExactLeavesOfx5
import Derived.Test.YthjhenhmjmpkaaaXFnExactLeavesOfx6
namespace Go.Proofs.Ythjhenhmjmpkaaa.XFnExactLeavesOf
open Go.RowKit Go.Proofs.YthjhenhmjmpkaaaW.PrintWords Go.Proofs.YthjhenhmjmpkaaaW.PrintLast Go.Proofs.YthjhenhmjmpkaaaW.PrintMore
attribute [local go_sem] max2_int min2_int max_two min_two max_three min_three max_four min_four   -- for this text's walks alone
set_option linter.unusedVariables false
set_option linter.unusedSimpArgs false

/-! ### laws_heldCondS: function 13 -/
mutual
def laws_heldCondS.l0 : Nat → List (S29) → Int → Int → Option (Int)
  | 0, _, _, _ => none
  | k + 1, x0, x1, x5 => if x5 < (x0.length : Int) then (if 0 ≤ x5 then (if ((rd_T29 x0 x5).f0) = x1 then (if ((rd_T29 x0 x5).f1) = (wrap64 (x1 + 1)) then (if ((rd_T29 x0 x5).f2) = (wrap64 ((wrap64 (x1 + 1)) + 1)) then ((laws_heldCondS.f k ((rd_T29 x0 x5).f3) (wrap64 ((wrap64 ((wrap64 (x1 + 1)) + 1)) + 1))).bind fun t172 => (if t172 < 0 then (some (-1)) else (laws_heldCondS.l0 k x0 t172 (wrap64 (x5 + 1))))) else (some (-1))) else (some (-1))) else (some (-1))) else (none)) else (some x1)
def laws_heldCondS.f : Nat → List (S29) → Int → Option (Int)
  | 0, _, _ => none
  | k + 1, l0, a1 => laws_heldCondS.l0 k l0 a1 0
end
set_option maxHeartbeats 8000000 in
set_option maxRecDepth 100000 in
theorem laws_heldCondS.calls (k : Nat) : ∀ (A0 : Option Addr) (c0 : Nat) (l0 : List (S29)) (a1 : Int) (r : Int) (w : World) (hr0 : Kd.C k29 w A0 l0.length l0) (hc0 : l0.length ≤ c0) (h : laws_heldCondS.f k l0 a1 = some r),
    Calls Try.prog 13 #[.slice A0 l0.length c0, .int .i64 a1] w fun e w' => e = .returned (.int .i64 r) ∧ Drawn0 w w' := by
  induction k using Nat.strongRecOn with
  | _ k ih =>
  intro A0 c0 l0 a1 r w hr0 hc0 h
  cases k with
  | zero => exact absurd h (by simp [laws_heldCondS.f])
  | succ k =>
  simp only [laws_heldCondS.f] at h
  have HR0 := Aside0.mk hr0
  have HC0 := Aside0.mk hc0
  clear hr0 hc0
  have H : (laws_heldCondS.l0 k l0 a1 0) = some r := h
  clear h
  have H' := Aside0.mk H
  clear H
  go_enter Try.func13, Try.ntmps13
  go_wp2
  go_loopg [1, 5] k (fun kq v1 v5 w' => ∃ (x1_1 : Int) (x5_1 : Int), v1 = .int .i64 x1_1 ∧ v5 = .int .i64 x5_1 ∧ Aside0 (laws_heldCondS.l0 kq l0 x1_1 x5_1 = some r) ∧ Aside0 (kq ≤ k) ∧ Drawn0 w w')
  case atStart => exact ⟨(a1), (0), (by first | rfl | (simp; done) | (simp [*]; done)), (by first | rfl | (simp; done) | (simp [*]; done)), H', ⟨Nat.le_refl _⟩, by repeat (first | exact Drawn0.refl _ | apply Drawn0.step)⟩
  case round =>
    clear H'
    try clear c1
    try clear p2
    obtain ⟨x1_1, x5_1, rfl, rfl, HA, HK1, ⟨m1, rfl⟩⟩ := hrel
    cases gk with
    | zero => exact absurd HA.out (by simp [laws_heldCondS.l0])
    | succ k1 =>
      have H := HA.out
      clear HA
      simp only [laws_heldCondS.l0] at H
      by_cases c3 : x5_1 < (l0.length : Int)
      · rw [if_pos c3] at H
        have c3b0 : decide (x5_1 < (l0.length : Int)) = true := decide_eq_true c3
        clear c3
        by_cases c4 : 0 ≤ x5_1
        · rw [if_pos c4] at H
          have c4b0 : decide (0 ≤ x5_1) = true := decide_eq_true c4
          clear c4
          by_cases c5 : ((rd_T29 l0 x5_1).f0) = x1_1
          · rw [if_pos c5] at H
            have c5b0 : (((rd_T29 l0 x5_1).f0) == x1_1) = true := beq_iff_eq.mpr c5
            have c5b1 : (((rd_T29 l0 x5_1).f0) != x1_1) = false := bne_eq_false_iff_eq.mpr c5
            clear c5
            by_cases c6 : ((rd_T29 l0 x5_1).f1) = (wrap64 (x1_1 + 1))
            · rw [if_pos c6] at H
              have c6b0 : (((rd_T29 l0 x5_1).f1) == (wrap64 (x1_1 + 1))) = true := beq_iff_eq.mpr c6
              have c6b1 : (((rd_T29 l0 x5_1).f1) != (wrap64 (x1_1 + 1))) = false := bne_eq_false_iff_eq.mpr c6
              clear c6
              by_cases c7 : ((rd_T29 l0 x5_1).f2) = (wrap64 ((wrap64 (x1_1 + 1)) + 1))
              · rw [if_pos c7] at H
                have c7b0 : (((rd_T29 l0 x5_1).f2) == (wrap64 ((wrap64 (x1_1 + 1)) + 1))) = true := beq_iff_eq.mpr c7
                have c7b1 : (((rd_T29 l0 x5_1).f2) != (wrap64 ((wrap64 (x1_1 + 1)) + 1))) = false := bne_eq_false_iff_eq.mpr c7
                clear c7
                replace H := Option.bind_eq_some_iff.mp H
                obtain ⟨t172, A80, H⟩ := H
                replace H : (if t172 < 0 then (some (-1)) else (laws_heldCondS.l0 k1 l0 t172 (wrap64 (x5_1 + 1)))) = some r := H
                have A8 := Aside0.mk A80
                clear A80
                by_cases c9 : t172 < 0
                · rw [if_pos c9] at H
                  have c9b0 : decide (t172 < 0) = true := decide_eq_true c9
                  clear c9
                  obtain rfl := Option.some.inj H
                  have p168 : 0 ≤ (x5_1 : Int) := of_decide_eq_true (by first | (with_reducible assumption) | assumption)
                  have q168 : x5_1 < (l0.length : Int) := of_decide_eq_true (by first | (with_reducible assumption) | assumption)
                  obtain ⟨ad168, A168_3, c168_3, e168, hx168_0, hx168_1, hx168_2, hx168_3, hl168_3, hi168_3⟩ := at_T29 HR0.out x5_1 p168 q168
                  cases e168
                  have HR168_3 := Aside0.mk hi168_3
                  have HC168_3 := Aside0.mk hl168_3
                  clear hi168_3 hl168_3
                  replace p168 := eq_true p168
                  replace q168 := eq_true q168
                  have p169 : 0 ≤ (x5_1 : Int) := of_decide_eq_true (by first | (with_reducible assumption) | assumption)
                  have q169 : x5_1 < (l0.length : Int) := of_decide_eq_true (by first | (with_reducible assumption) | assumption)
                  obtain ⟨ad169, A169_3, c169_3, e169, hx169_0, hx169_1, hx169_2, hx169_3, hl169_3, hi169_3⟩ := at_T29 HR0.out x5_1 p169 q169
                  obtain rfl : ad168 = ad169 := (by injection e169)
                  have HR169_3 := Aside0.mk hi169_3
                  have HC169_3 := Aside0.mk hl169_3
                  clear hi169_3 hl169_3
                  replace p169 := eq_true p169
                  replace q169 := eq_true q169
                  have ea_ := Option.some.inj (hx168_3.symm.trans hx169_3)
                  injection ea_ with ea_ en_ ec_
                  subst ea_
                  subst ec_
                  clear en_
                  have p170 : 0 ≤ (x5_1 : Int) := of_decide_eq_true (by first | (with_reducible assumption) | assumption)
                  have q170 : x5_1 < (l0.length : Int) := of_decide_eq_true (by first | (with_reducible assumption) | assumption)
                  obtain ⟨ad170, A170_3, c170_3, e170, hx170_0, hx170_1, hx170_2, hx170_3, hl170_3, hi170_3⟩ := at_T29 HR0.out x5_1 p170 q170
                  obtain rfl : ad168 = ad170 := (by injection e170)
                  have HR170_3 := Aside0.mk hi170_3
                  have HC170_3 := Aside0.mk hl170_3
                  clear hi170_3 hl170_3
                  replace p170 := eq_true p170
                  replace q170 := eq_true q170
                  have ea_ := Option.some.inj (hx168_3.symm.trans hx170_3)
                  injection ea_ with ea_ en_ ec_
                  subst ea_
                  subst ec_
                  clear en_
                  have p171 : 0 ≤ (x5_1 : Int) := of_decide_eq_true (by first | (with_reducible assumption) | assumption)
                  have q171 : x5_1 < (l0.length : Int) := of_decide_eq_true (by first | (with_reducible assumption) | assumption)
                  obtain ⟨ad171, A171_3, c171_3, e171, hx171_0, hx171_1, hx171_2, hx171_3, hl171_3, hi171_3⟩ := at_T29 HR0.out x5_1 p171 q171
                  obtain rfl : ad168 = ad171 := (by injection e171)
                  have HR171_3 := Aside0.mk hi171_3
                  have HC171_3 := Aside0.mk hl171_3
                  clear hi171_3 hl171_3
                  replace p171 := eq_true p171
                  replace q171 := eq_true q171
                  have ea_ := Option.some.inj (hx168_3.symm.trans hx171_3)
                  injection ea_ with ea_ en_ ec_
                  subst ea_
                  subst ec_
                  clear en_
                  go_wp2_with (first | ((with_reducible refine gate_callee (f := 13) rfl ?_); refine goesL_ (some 45) rfl rfl Try.func13 (by kernel_rfl) rfl #[.slice A168_3 ((rd_T29 l0 x5_1).f3).length c168_3, .int .i64 (wrap64 ((wrap64 ((wrap64 (x1_1 + 1)) + 1)) + 1))] rfl (by (try simp only [List.map_toArray, List.map_cons, List.map_nil]); first | done | rfl | (simp only [List.length_drop, List.length_take]; rfl)) ?_; (with_reducible refine (ih k1 (by have := HK1.out; omega) _ _ ((rd_T29 l0 x5_1).f3) (wrap64 ((wrap64 ((wrap64 (x1_1 + 1)) + 1)) + 1)) t172 _ ?side1 ?side2 A8.out).mono ?_); (case side1 => repeat (first | exact HR171_3.out | (with_reducible refine Kd.C_alloc ?_ _) | (with_reducible refine Kd.C_drewN ?_ _) | (with_reducible refine Kd.C_drew ?_))); (case side2 => exact HC171_3.out); rintro e w' ⟨rfl, ⟨nd, rfl⟩⟩; refine ⟨_, rfl, ?_⟩))
                  go_ret
                  exact ⟨by first | rfl | (simp; done) | (simp [*]; done), by repeat (first | exact Drawn0.refl _ | apply Drawn0.step)⟩
                · rw [if_neg c9] at H
                  have c9b0 : decide (t172 < 0) = false := decide_eq_false c9
                  clear c9
                  have H' := Aside0.mk H
                  clear H
                  have p168 : 0 ≤ (x5_1 : Int) := of_decide_eq_true (by first | (with_reducible assumption) | assumption)
                  have q168 : x5_1 < (l0.length : Int) := of_decide_eq_true (by first | (with_reducible assumption) | assumption)
                  obtain ⟨ad168, A168_3, c168_3, e168, hx168_0, hx168_1, hx168_2, hx168_3, hl168_3, hi168_3⟩ := at_T29 HR0.out x5_1 p168 q168
                  cases e168
                  have HR168_3 := Aside0.mk hi168_3
                  have HC168_3 := Aside0.mk hl168_3
                  clear hi168_3 hl168_3
                  replace p168 := eq_true p168
                  replace q168 := eq_true q168
                  have p169 : 0 ≤ (x5_1 : Int) := of_decide_eq_true (by first | (with_reducible assumption) | assumption)
                  have q169 : x5_1 < (l0.length : Int) := of_decide_eq_true (by first | (with_reducible assumption) | assumption)
                  obtain ⟨ad169, A169_3, c169_3, e169, hx169_0, hx169_1, hx169_2, hx169_3, hl169_3, hi169_3⟩ := at_T29 HR0.out x5_1 p169 q169
                  obtain rfl : ad168 = ad169 := (by injection e169)
                  have HR169_3 := Aside0.mk hi169_3
                  have HC169_3 := Aside0.mk hl169_3
                  clear hi169_3 hl169_3
                  replace p169 := eq_true p169
                  replace q169 := eq_true q169
                  have ea_ := Option.some.inj (hx168_3.symm.trans hx169_3)
                  injection ea_ with ea_ en_ ec_
                  subst ea_
                  subst ec_
                  clear en_
                  have p170 : 0 ≤ (x5_1 : Int) := of_decide_eq_true (by first | (with_reducible assumption) | assumption)
                  have q170 : x5_1 < (l0.length : Int) := of_decide_eq_true (by first | (with_reducible assumption) | assumption)
                  obtain ⟨ad170, A170_3, c170_3, e170, hx170_0, hx170_1, hx170_2, hx170_3, hl170_3, hi170_3⟩ := at_T29 HR0.out x5_1 p170 q170
                  obtain rfl : ad168 = ad170 := (by injection e170)
                  have HR170_3 := Aside0.mk hi170_3
                  have HC170_3 := Aside0.mk hl170_3
                  clear hi170_3 hl170_3
                  replace p170 := eq_true p170
                  replace q170 := eq_true q170
                  have ea_ := Option.some.inj (hx168_3.symm.trans hx170_3)
                  injection ea_ with ea_ en_ ec_
                  subst ea_
                  subst ec_
                  clear en_
                  have p171 : 0 ≤ (x5_1 : Int) := of_decide_eq_true (by first | (with_reducible assumption) | assumption)
                  have q171 : x5_1 < (l0.length : Int) := of_decide_eq_true (by first | (with_reducible assumption) | assumption)
                  obtain ⟨ad171, A171_3, c171_3, e171, hx171_0, hx171_1, hx171_2, hx171_3, hl171_3, hi171_3⟩ := at_T29 HR0.out x5_1 p171 q171
                  obtain rfl : ad168 = ad171 := (by injection e171)
                  have HR171_3 := Aside0.mk hi171_3
                  have HC171_3 := Aside0.mk hl171_3
                  clear hi171_3 hl171_3
                  replace p171 := eq_true p171
                  replace q171 := eq_true q171
                  have ea_ := Option.some.inj (hx168_3.symm.trans hx171_3)
                  injection ea_ with ea_ en_ ec_
                  subst ea_
                  subst ec_
                  clear en_
                  go_wp2_with (first | ((with_reducible refine gate_callee (f := 13) rfl ?_); refine goesL_ (some 45) rfl rfl Try.func13 (by kernel_rfl) rfl #[.slice A168_3 ((rd_T29 l0 x5_1).f3).length c168_3, .int .i64 (wrap64 ((wrap64 ((wrap64 (x1_1 + 1)) + 1)) + 1))] rfl (by (try simp only [List.map_toArray, List.map_cons, List.map_nil]); first | done | rfl | (simp only [List.length_drop, List.length_take]; rfl)) ?_; (with_reducible refine (ih k1 (by have := HK1.out; omega) _ _ ((rd_T29 l0 x5_1).f3) (wrap64 ((wrap64 ((wrap64 (x1_1 + 1)) + 1)) + 1)) t172 _ ?side1 ?side2 A8.out).mono ?_); (case side1 => repeat (first | exact HR171_3.out | (with_reducible refine Kd.C_alloc ?_ _) | (with_reducible refine Kd.C_drewN ?_ _) | (with_reducible refine Kd.C_drew ?_))); (case side2 => exact HC171_3.out); rintro e w' ⟨rfl, ⟨nd, rfl⟩⟩; refine ⟨_, rfl, ?_⟩))
                  go_roundg k1
                  case measure => have := HK1.out; omega
                  case rel => exact ⟨(t172), (wrap64 (x5_1 + 1)), (by first | rfl | (simp; done) | (simp [*]; done)), (by first | rfl | (simp; done) | (simp [*]; done)), H', ⟨by have := HK1.out; omega⟩, by repeat (first | exact Drawn0.refl _ | apply Drawn0.step)⟩
              · rw [if_neg c7] at H
                have c7b0 : (((rd_T29 l0 x5_1).f2) == (wrap64 ((wrap64 (x1_1 + 1)) + 1))) = false := beq_eq_false_iff_ne.mpr c7
                have c7b1 : (((rd_T29 l0 x5_1).f2) != (wrap64 ((wrap64 (x1_1 + 1)) + 1))) = true := bne_iff_ne.mpr c7
                obtain rfl := Option.some.inj H
                have p168 : 0 ≤ (x5_1 : Int) := of_decide_eq_true (by first | (with_reducible assumption) | assumption)
                have q168 : x5_1 < (l0.length : Int) := of_decide_eq_true (by first | (with_reducible assumption) | assumption)
                obtain ⟨ad168, A168_3, c168_3, e168, hx168_0, hx168_1, hx168_2, hx168_3, hl168_3, hi168_3⟩ := at_T29 HR0.out x5_1 p168 q168
                cases e168
                have HR168_3 := Aside0.mk hi168_3
                have HC168_3 := Aside0.mk hl168_3
                clear hi168_3 hl168_3
                replace p168 := eq_true p168
                replace q168 := eq_true q168
                have p169 : 0 ≤ (x5_1 : Int) := of_decide_eq_true (by first | (with_reducible assumption) | assumption)
                have q169 : x5_1 < (l0.length : Int) := of_decide_eq_true (by first | (with_reducible assumption) | assumption)
                obtain ⟨ad169, A169_3, c169_3, e169, hx169_0, hx169_1, hx169_2, hx169_3, hl169_3, hi169_3⟩ := at_T29 HR0.out x5_1 p169 q169
                obtain rfl : ad168 = ad169 := (by injection e169)
                have HR169_3 := Aside0.mk hi169_3
                have HC169_3 := Aside0.mk hl169_3
                clear hi169_3 hl169_3
                replace p169 := eq_true p169
                replace q169 := eq_true q169
                have ea_ := Option.some.inj (hx168_3.symm.trans hx169_3)
                injection ea_ with ea_ en_ ec_
                subst ea_
                subst ec_
                clear en_
                have p170 : 0 ≤ (x5_1 : Int) := of_decide_eq_true (by first | (with_reducible assumption) | assumption)
                have q170 : x5_1 < (l0.length : Int) := of_decide_eq_true (by first | (with_reducible assumption) | assumption)
                obtain ⟨ad170, A170_3, c170_3, e170, hx170_0, hx170_1, hx170_2, hx170_3, hl170_3, hi170_3⟩ := at_T29 HR0.out x5_1 p170 q170
                obtain rfl : ad168 = ad170 := (by injection e170)
                have HR170_3 := Aside0.mk hi170_3
                have HC170_3 := Aside0.mk hl170_3
                clear hi170_3 hl170_3
                replace p170 := eq_true p170
                replace q170 := eq_true q170
                have ea_ := Option.some.inj (hx168_3.symm.trans hx170_3)
                injection ea_ with ea_ en_ ec_
                subst ea_
                subst ec_
                clear en_
                go_wp2
                go_ret
                exact ⟨by first | rfl | (simp; done) | (simp [*]; done), by repeat (first | exact Drawn0.refl _ | apply Drawn0.step)⟩
            · rw [if_neg c6] at H
              have c6b0 : (((rd_T29 l0 x5_1).f1) == (wrap64 (x1_1 + 1))) = false := beq_eq_false_iff_ne.mpr c6
              have c6b1 : (((rd_T29 l0 x5_1).f1) != (wrap64 (x1_1 + 1))) = true := bne_iff_ne.mpr c6
              obtain rfl := Option.some.inj H
              have p168 : 0 ≤ (x5_1 : Int) := of_decide_eq_true (by first | (with_reducible assumption) | assumption)
              have q168 : x5_1 < (l0.length : Int) := of_decide_eq_true (by first | (with_reducible assumption) | assumption)
              obtain ⟨ad168, A168_3, c168_3, e168, hx168_0, hx168_1, hx168_2, hx168_3, hl168_3, hi168_3⟩ := at_T29 HR0.out x5_1 p168 q168
              cases e168
              have HR168_3 := Aside0.mk hi168_3
              have HC168_3 := Aside0.mk hl168_3
              clear hi168_3 hl168_3
              replace p168 := eq_true p168
              replace q168 := eq_true q168
              have p169 : 0 ≤ (x5_1 : Int) := of_decide_eq_true (by first | (with_reducible assumption) | assumption)
              have q169 : x5_1 < (l0.length : Int) := of_decide_eq_true (by first | (with_reducible assumption) | assumption)
              obtain ⟨ad169, A169_3, c169_3, e169, hx169_0, hx169_1, hx169_2, hx169_3, hl169_3, hi169_3⟩ := at_T29 HR0.out x5_1 p169 q169
              obtain rfl : ad168 = ad169 := (by injection e169)
              have HR169_3 := Aside0.mk hi169_3
              have HC169_3 := Aside0.mk hl169_3
              clear hi169_3 hl169_3
              replace p169 := eq_true p169
              replace q169 := eq_true q169
              have ea_ := Option.some.inj (hx168_3.symm.trans hx169_3)
              injection ea_ with ea_ en_ ec_
              subst ea_
              subst ec_
              clear en_
              go_wp2
              go_ret
              exact ⟨by first | rfl | (simp; done) | (simp [*]; done), by repeat (first | exact Drawn0.refl _ | apply Drawn0.step)⟩
          · rw [if_neg c5] at H
            have c5b0 : (((rd_T29 l0 x5_1).f0) == x1_1) = false := beq_eq_false_iff_ne.mpr c5
            have c5b1 : (((rd_T29 l0 x5_1).f0) != x1_1) = true := bne_iff_ne.mpr c5
            obtain rfl := Option.some.inj H
            have p168 : 0 ≤ (x5_1 : Int) := of_decide_eq_true (by first | (with_reducible assumption) | assumption)
            have q168 : x5_1 < (l0.length : Int) := of_decide_eq_true (by first | (with_reducible assumption) | assumption)
            obtain ⟨ad168, A168_3, c168_3, e168, hx168_0, hx168_1, hx168_2, hx168_3, hl168_3, hi168_3⟩ := at_T29 HR0.out x5_1 p168 q168
            cases e168
            have HR168_3 := Aside0.mk hi168_3
            have HC168_3 := Aside0.mk hl168_3
            clear hi168_3 hl168_3
            replace p168 := eq_true p168
            replace q168 := eq_true q168
            go_wp2
            go_ret
            exact ⟨by first | rfl | (simp; done) | (simp [*]; done), by repeat (first | exact Drawn0.refl _ | apply Drawn0.step)⟩
        · rw [if_neg c4] at H
          exact absurd H (by simp)
      · rw [if_neg c3] at H
        have c3b0 : decide (x5_1 < (l0.length : Int)) = false := decide_eq_false c3
        clear c3
        obtain rfl := Option.some.inj H
        go_wp2
        go_ret
        exact ⟨by first | rfl | (simp; done) | (simp [*]; done), by repeat (first | exact Drawn0.refl _ | apply Drawn0.step)⟩

/-! ### laws_FnExactLeavesOf: function 3 -/
def laws_FnExactLeavesOf.f (k : Nat) (a0_0 : Int) (a0_1 : Int) (a0_2 : Int) (l0_3 : List (S24)) : Option (Bool) := (laws_szCond.f k a0_0 a0_1 a0_2 l0_3 1048576).bind fun t9 => (if t9 < 0 then some true else ((laws_toCond.f k a0_0 a0_1 a0_2 l0_3).bind fun (t17, t18, t19, t20) => ((spec_LeavesOf.f k t17 t18 t19 t20).bind fun t26 => ((laws_toCond.f k a0_0 a0_1 a0_2 l0_3).bind fun (t36, t37, t38, t39) => ((impl_LeavesOf.f k t36 t37 t38 t39).bind fun t61 => ((laws_eqCondS.f k t61 t26).bind fun t67 => (if t67 = true then ((laws_toCond.f k a0_0 a0_1 a0_2 l0_3).bind fun (t72, t73, t74, t75) => ((laws_eqCond.f k t36 t37 t38 t39 t72 t73 t74 t75).bind fun t81 => (if t81 = true then ((laws_markCond.f t36 t37 t38 t39 1).bind fun (t89, t90) => (if t89 < 0 then some false else ((laws_eqCondS.f k t61 t26).bind fun t95 => (if t95 = true then ((laws_markCondS.f t61 1).bind fun (t99, t100) => ((laws_heldCondS.f k t100 1).bind fun t104 => (if t104 < 0 then some false else (if t99 = t104 then ((laws_toCond.f k a0_0 a0_1 a0_2 l0_3).bind fun (t113, t114, t115, t116) => ((impl_LeavesOf.f k t113 t114 t115 t116).bind fun t122 => ((laws_eqCondS.f k t122 t26).bind fun t128 => (if t128 = true then ((laws_heldCondS.f k t100 1).bind fun t132 => (if t132 < 0 then some false else (if t99 = t132 then (some true) else some false))) else some false)))) else some false)))) else some false)))) else some false))) else some false)))))))
set_option maxHeartbeats 8000000 in
set_option maxRecDepth 100000 in
theorem laws_FnExactLeavesOf.calls (k : Nat) (a0_0 : Int) (a0_1 : Int) (a0_2 : Int) (A0_3 : Option Addr) (c0_3 : Nat) (l0_3 : List (S24)) (r : Bool) (w : World) (hr0_3 : Kd.C k24 w A0_3 l0_3.length l0_3) (hc0_3 : l0_3.length ≤ c0_3) (h : laws_FnExactLeavesOf.f k a0_0 a0_1 a0_2 l0_3 = some r) (hr_ : Aside0 (r = true)) :
    Calls Try.prog 3 #[.agg #[.int .i64 a0_0, .int .i64 a0_1, .int .i64 a0_2, .slice A0_3 l0_3.length c0_3]] w fun e w' => e = .returned (.bool r) ∧ Below w.heap.size w w' := by
  obtain rfl := hr_.out
  have hu24 := Try.underlying24
  have hu29 := Try.underlying29
  have HR0_3 := Aside0.mk hr0_3
  have HC0_3 := Aside0.mk hc0_3
  clear hr0_3 hc0_3
  have HB := Aside0.mk (Below.refl w.heap.size w)
  have HS : Aside0 (0 ≤ w.heap.size) := ⟨Nat.zero_le _⟩
  unfold laws_FnExactLeavesOf.f at h
  obtain ⟨t9, E8, h⟩ := Option.bind_eq_some_iff.mp h
  (try dsimp only at E8 h)
  replace E8 := Aside0.mk E8
  by_cases c15 : t9 < 0
  · have cb_c15 : decide (t9 < 0) = true := decide_eq_true c15
    clear h
    go_enter Try.func3, Try.ntmps3
    go_wp2_with (first | ((with_reducible refine gate_dst (N := 1) rfl ?_); refine box_event ?hg (N := 1) ?hd (cs := #[.int .i64 a0_0, .int .i64 a0_1, .int .i64 a0_2, .slice A0_3 l0_3.length c0_3]) (t := 24) ?hr ?_; (case hd => rfl); (case hg => rfl); (case hr => first | (go_simp; done) | (go_simp; rfl)); intro g1 hg w2 hbox hb; have HZ3 : Aside0 (0 ≤ g1 ∧ w.heap.size ≤ g1) := ⟨by rw [hg]; exact ⟨HS.out, HB.out.size⟩⟩; replace HS := Go.Proofs.YthjhenhmjmpkaaaTree.Z_b HS hb; replace HB := Go.Proofs.YthjhenhmjmpkaaaTree.H_b HB hb; have HKg1 := Aside0.mk hbox; replace HS : Aside0 (g1 + 1 ≤ w2.heap.size) := ⟨blk_lt hbox⟩; clear hg hbox hb; have hc4 : w2.cell? ⟨g1, 0, none⟩ = some (.int .i64 a0_0) := (blk_cell HKg1.out 0).trans rfl; have hc5 : w2.cell? ⟨g1, 1, none⟩ = some (.int .i64 a0_1) := (blk_cell HKg1.out 1).trans rfl; have hc6 : w2.cell? ⟨g1, 2, none⟩ = some (.int .i64 a0_2) := (blk_cell HKg1.out 2).trans rfl; have hc7 : w2.cell? ⟨g1, 3, none⟩ = some (.slice A0_3 l0_3.length c0_3) := (blk_cell HKg1.out 3).trans rfl) | ((with_reducible refine gate_callee (f := 5) rfl ?_); refine goesL_ (some 13) rfl rfl Try.func5 (by kernel_rfl) rfl #[.agg #[.int .i64 a0_0, .int .i64 a0_1, .int .i64 a0_2, .slice A0_3 l0_3.length c0_3], .int .i64 1048576] rfl (by (try simp only [List.map_toArray, List.map_cons, List.map_nil]); first | done | rfl) ?_; (with_reducible refine (laws_szCond.calls k a0_0 a0_1 a0_2 _ _ l0_3 1048576 t9 _ ?side1 ?side2 E8.out).mono ?_); (case side1 => exact Kd.C_below HR0_3.out HB.out); (case side2 => exact HC0_3.out); rintro e w10 ⟨rfl, hb⟩; refine ⟨_, rfl, ?_⟩; (try clear hc4 hc5 hc6 hc7); replace HKg1 := Go.Proofs.YthjhenhmjmpkaaaTree.B_b HKg1 hb; replace HS := Go.Proofs.YthjhenhmjmpkaaaTree.Z_b HS hb; replace HB := Go.Proofs.YthjhenhmjmpkaaaTree.H_b HB hb; clear hb; have hc11 : w10.cell? ⟨g1, 0, none⟩ = some (.int .i64 a0_0) := (blk_cell HKg1.out 0).trans rfl; have hc12 : w10.cell? ⟨g1, 1, none⟩ = some (.int .i64 a0_1) := (blk_cell HKg1.out 1).trans rfl; have hc13 : w10.cell? ⟨g1, 2, none⟩ = some (.int .i64 a0_2) := (blk_cell HKg1.out 2).trans rfl; have hc14 : w10.cell? ⟨g1, 3, none⟩ = some (.slice A0_3 l0_3.length c0_3) := (blk_cell HKg1.out 3).trans rfl))
    go_ret
    exact ⟨rfl, HB.out⟩
  rw [if_neg c15] at h
  have cb_c15 : decide (t9 < 0) = false := decide_eq_false c15
  clear c15
  obtain ⟨⟨t17, t18, t19, t20⟩, E16, h⟩ := Option.bind_eq_some_iff.mp h
  (try dsimp only at E16 h)
  replace E16 := Aside0.mk E16
  obtain ⟨t26, E25, h⟩ := Option.bind_eq_some_iff.mp h
  (try dsimp only at E25 h)
  replace E25 := Aside0.mk E25
  obtain ⟨⟨t36, t37, t38, t39⟩, E35, h⟩ := Option.bind_eq_some_iff.mp h
  (try dsimp only at E35 h)
  replace E35 := Aside0.mk E35
  obtain ⟨t61, E60, h⟩ := Option.bind_eq_some_iff.mp h
  (try dsimp only at E60 h)
  replace E60 := Aside0.mk E60
  obtain ⟨t67, E66, h⟩ := Option.bind_eq_some_iff.mp h
  (try dsimp only at E66 h)
  replace E66 := Aside0.mk E66
  by_cases c69 : t67 = true
  rotate_left
  · rw [if_neg c69] at h
    exact absurd h (by simp)
  rw [if_pos c69] at h
  subst c69
  obtain ⟨⟨t72, t73, t74, t75⟩, E71, h⟩ := Option.bind_eq_some_iff.mp h
  (try dsimp only at E71 h)
  replace E71 := Aside0.mk E71
  obtain ⟨t81, E80, h⟩ := Option.bind_eq_some_iff.mp h
  (try dsimp only at E80 h)
  replace E80 := Aside0.mk E80
  by_cases c83 : t81 = true
  rotate_left
  · rw [if_neg c83] at h
    exact absurd h (by simp)
  rw [if_pos c83] at h
  subst c83
  obtain ⟨⟨t89, t90⟩, E88, h⟩ := Option.bind_eq_some_iff.mp h
  (try dsimp only at E88 h)
  replace E88 := Aside0.mk E88
  by_cases c93 : t89 < 0
  · rw [if_pos c93] at h
    exact absurd h (by simp)
  rw [if_neg c93] at h
  have cb_c93 : decide (t89 < 0) = false := decide_eq_false c93
  clear c93
  obtain ⟨t95, E94, h⟩ := Option.bind_eq_some_iff.mp h
  (try dsimp only at E94 h)
  replace E94 := Aside0.mk E94
  by_cases c97 : t95 = true
  rotate_left
  · rw [if_neg c97] at h
    exact absurd h (by simp)
  rw [if_pos c97] at h
  subst c97
  obtain ⟨⟨t99, t100⟩, E98, h⟩ := Option.bind_eq_some_iff.mp h
  (try dsimp only at E98 h)
  replace E98 := Aside0.mk E98
  obtain ⟨t104, E103, h⟩ := Option.bind_eq_some_iff.mp h
  (try dsimp only at E103 h)
  replace E103 := Aside0.mk E103
  by_cases c110 : t104 < 0
  · rw [if_pos c110] at h
    exact absurd h (by simp)
  rw [if_neg c110] at h
  have cb_c110 : decide (t104 < 0) = false := decide_eq_false c110
  clear c110
  by_cases c111 : t99 = t104
  rotate_left
  · rw [if_neg c111] at h
    exact absurd h (by simp)
  rw [if_pos c111] at h
  subst c111
  obtain ⟨⟨t113, t114, t115, t116⟩, E112, h⟩ := Option.bind_eq_some_iff.mp h
  (try dsimp only at E112 h)
  replace E112 := Aside0.mk E112
  obtain ⟨t122, E121, h⟩ := Option.bind_eq_some_iff.mp h
  (try dsimp only at E121 h)
  replace E121 := Aside0.mk E121
  obtain ⟨t128, E127, h⟩ := Option.bind_eq_some_iff.mp h
  (try dsimp only at E127 h)
  replace E127 := Aside0.mk E127
  by_cases c130 : t128 = true
  rotate_left
  · rw [if_neg c130] at h
    exact absurd h (by simp)
  rw [if_pos c130] at h
  subst c130
  obtain ⟨t132, E131, h⟩ := Option.bind_eq_some_iff.mp h
  (try dsimp only at E131 h)
  replace E131 := Aside0.mk E131
  by_cases c134 : t132 < 0
  · rw [if_pos c134] at h
    exact absurd h (by simp)
  rw [if_neg c134] at h
  have cb_c134 : decide (t132 < 0) = false := decide_eq_false c134
  clear c134
  by_cases c135 : t99 = t132
  rotate_left
  · rw [if_neg c135] at h
    exact absurd h (by simp)
  rw [if_pos c135] at h
  subst c135
  clear h
  go_enter Try.func3, Try.ntmps3
  go_wp2_with (first | ((with_reducible refine gate_dst (N := 1) rfl ?_); refine box_event ?hg (N := 1) ?hd (cs := #[.int .i64 a0_0, .int .i64 a0_1, .int .i64 a0_2, .slice A0_3 l0_3.length c0_3]) (t := 24) ?hr ?_; (case hd => rfl); (case hg => rfl); (case hr => first | (go_simp; done) | (go_simp; rfl)); intro g1 hg w2 hbox hb; have HZ3 : Aside0 (0 ≤ g1 ∧ w.heap.size ≤ g1) := ⟨by rw [hg]; exact ⟨HS.out, HB.out.size⟩⟩; replace HS := Go.Proofs.YthjhenhmjmpkaaaTree.Z_b HS hb; replace HB := Go.Proofs.YthjhenhmjmpkaaaTree.H_b HB hb; have HKg1 := Aside0.mk hbox; replace HS : Aside0 (g1 + 1 ≤ w2.heap.size) := ⟨blk_lt hbox⟩; clear hg hbox hb; have hc4 : w2.cell? ⟨g1, 0, none⟩ = some (.int .i64 a0_0) := (blk_cell HKg1.out 0).trans rfl; have hc5 : w2.cell? ⟨g1, 1, none⟩ = some (.int .i64 a0_1) := (blk_cell HKg1.out 1).trans rfl; have hc6 : w2.cell? ⟨g1, 2, none⟩ = some (.int .i64 a0_2) := (blk_cell HKg1.out 2).trans rfl; have hc7 : w2.cell? ⟨g1, 3, none⟩ = some (.slice A0_3 l0_3.length c0_3) := (blk_cell HKg1.out 3).trans rfl) | ((with_reducible refine gate_callee (f := 5) rfl ?_); refine goesL_ (some 13) rfl rfl Try.func5 (by kernel_rfl) rfl #[.agg #[.int .i64 a0_0, .int .i64 a0_1, .int .i64 a0_2, .slice A0_3 l0_3.length c0_3], .int .i64 1048576] rfl (by (try simp only [List.map_toArray, List.map_cons, List.map_nil]); first | done | rfl) ?_; (with_reducible refine (laws_szCond.calls k a0_0 a0_1 a0_2 _ _ l0_3 1048576 t9 _ ?side1 ?side2 E8.out).mono ?_); (case side1 => exact Kd.C_below HR0_3.out HB.out); (case side2 => exact HC0_3.out); rintro e w10 ⟨rfl, hb⟩; refine ⟨_, rfl, ?_⟩; (try clear hc4 hc5 hc6 hc7); replace HKg1 := Go.Proofs.YthjhenhmjmpkaaaTree.B_b HKg1 hb; replace HS := Go.Proofs.YthjhenhmjmpkaaaTree.Z_b HS hb; replace HB := Go.Proofs.YthjhenhmjmpkaaaTree.H_b HB hb; clear hb; have hc11 : w10.cell? ⟨g1, 0, none⟩ = some (.int .i64 a0_0) := (blk_cell HKg1.out 0).trans rfl; have hc12 : w10.cell? ⟨g1, 1, none⟩ = some (.int .i64 a0_1) := (blk_cell HKg1.out 1).trans rfl; have hc13 : w10.cell? ⟨g1, 2, none⟩ = some (.int .i64 a0_2) := (blk_cell HKg1.out 2).trans rfl; have hc14 : w10.cell? ⟨g1, 3, none⟩ = some (.slice A0_3 l0_3.length c0_3) := (blk_cell HKg1.out 3).trans rfl) | ((with_reducible refine gate_callee (f := 7) rfl ?_); refine goesL_ (some 17) rfl rfl Try.func7 (by kernel_rfl) rfl #[.agg #[.int .i64 a0_0, .int .i64 a0_1, .int .i64 a0_2, .slice A0_3 l0_3.length c0_3]] rfl (by (try simp only [List.map_toArray, List.map_cons, List.map_nil]); first | done | rfl) ?_; (with_reducible refine (laws_toCond.calls k a0_0 a0_1 a0_2 _ _ l0_3 t17 t18 t19 t20 _ ?side1 ?side2 E16.out).mono ?_); (case side1 => exact Kd.C_below HR0_3.out HB.out); (case side2 => exact HC0_3.out); rintro e w21 ⟨v_0, rfl, ho0, hb⟩; obtain ⟨Aq22, cq22, rfl⟩ := Kd.S_slice ho0; refine ⟨_, rfl, ?_⟩; obtain ⟨Lq22, Uq22, HZ23, HZ24, HOq22⟩ := Go.Proofs.YthjhenhmjmpkaaaTree.S_made ho0 HS.out hb HB.out.size; (try clear hc11 hc12 hc13 hc14); replace HKg1 := Go.Proofs.YthjhenhmjmpkaaaTree.B_b HKg1 hb; replace HS := Go.Proofs.YthjhenhmjmpkaaaTree.Z_b HS hb; replace HB := Go.Proofs.YthjhenhmjmpkaaaTree.H_b HB hb; replace HS := HZ24; clear ho0; clear hb) | ((with_reducible refine gate_callee (f := 6) rfl ?_); refine goesL_ (some 18) rfl rfl Try.func6 (by kernel_rfl) rfl #[.agg #[.int .i64 t17, .int .i64 t18, .int .i64 t19, .slice Aq22 t20.length cq22]] rfl (by (try simp only [List.map_toArray, List.map_cons, List.map_nil]); first | done | rfl) ?_; (with_reducible refine (spec_LeavesOf.calls k t17 t18 t19 _ _ t20 t26 _ ?side1 ?side2 E25.out).mono ?_); (case side1 => exact (Kd.S_reads' HOq22.out).2.2); (case side2 => exact (Kd.S_reads' HOq22.out).2.1); rintro e w27 ⟨v_0, rfl, ho0, hb⟩; obtain ⟨Aq28, cq28, rfl⟩ := Kd.S_slice ho0; refine ⟨_, rfl, ?_⟩; obtain ⟨Lq28, Uq28, HZ29, HZ30, HOq28⟩ := Go.Proofs.YthjhenhmjmpkaaaTree.S_made ho0 HS.out hb HB.out.size; replace HOq22 := Go.Proofs.YthjhenhmjmpkaaaTree.S_b HOq22 hb; replace HKg1 := Go.Proofs.YthjhenhmjmpkaaaTree.B_b HKg1 hb; replace HS := Go.Proofs.YthjhenhmjmpkaaaTree.Z_b HS hb; replace HB := Go.Proofs.YthjhenhmjmpkaaaTree.H_b HB hb; replace HS := HZ30; clear ho0; clear hb; have hc31 : w27.cell? ⟨g1, 0, none⟩ = some (.int .i64 a0_0) := (blk_cell HKg1.out 0).trans rfl; have hc32 : w27.cell? ⟨g1, 1, none⟩ = some (.int .i64 a0_1) := (blk_cell HKg1.out 1).trans rfl; have hc33 : w27.cell? ⟨g1, 2, none⟩ = some (.int .i64 a0_2) := (blk_cell HKg1.out 2).trans rfl; have hc34 : w27.cell? ⟨g1, 3, none⟩ = some (.slice A0_3 l0_3.length c0_3) := (blk_cell HKg1.out 3).trans rfl) | ((with_reducible refine gate_callee (f := 7) rfl ?_); refine goesL_ (some 20) rfl rfl Try.func7 (by kernel_rfl) rfl #[.agg #[.int .i64 a0_0, .int .i64 a0_1, .int .i64 a0_2, .slice A0_3 l0_3.length c0_3]] rfl (by (try simp only [List.map_toArray, List.map_cons, List.map_nil]); first | done | rfl) ?_; (with_reducible refine (laws_toCond.calls k a0_0 a0_1 a0_2 _ _ l0_3 t36 t37 t38 t39 _ ?side1 ?side2 E35.out).mono ?_); (case side1 => exact Kd.C_below HR0_3.out HB.out); (case side2 => exact HC0_3.out); rintro e w40 ⟨v_0, rfl, ho0, hb⟩; obtain ⟨Aq41, cq41, rfl⟩ := Kd.S_slice ho0; refine ⟨_, rfl, ?_⟩; obtain ⟨Lq41, Uq41, HZ42, HZ43, HOq41⟩ := Go.Proofs.YthjhenhmjmpkaaaTree.S_made ho0 HS.out hb HB.out.size; (try clear hc31 hc32 hc33 hc34); replace HOq22 := Go.Proofs.YthjhenhmjmpkaaaTree.S_b HOq22 hb; replace HOq28 := Go.Proofs.YthjhenhmjmpkaaaTree.S_b HOq28 hb; replace HKg1 := Go.Proofs.YthjhenhmjmpkaaaTree.B_b HKg1 hb; replace HS := Go.Proofs.YthjhenhmjmpkaaaTree.Z_b HS hb; replace HB := Go.Proofs.YthjhenhmjmpkaaaTree.H_b HB hb; replace HS := HZ43; clear ho0; clear hb) | ((with_reducible refine gate_dst (N := 5) rfl ?_); refine box_event ?hg (N := 5) ?hd (cs := #[.int .i64 0, .int .i64 0, .int .i64 0, .slice none 0 0]) (t := 29) ?hr ?_; (case hd => rfl); (case hg => rfl); (case hr => first | (go_simp; done) | (go_simp; rfl)); intro g44 hg w45 hbox hb; have HZ46 : Aside0 (Uq41 ≤ g44 ∧ w.heap.size ≤ g44) := ⟨by rw [hg]; exact ⟨HS.out, HB.out.size⟩⟩; replace HOq22 := Go.Proofs.YthjhenhmjmpkaaaTree.S_b HOq22 hb; replace HOq28 := Go.Proofs.YthjhenhmjmpkaaaTree.S_b HOq28 hb; replace HOq41 := Go.Proofs.YthjhenhmjmpkaaaTree.S_b HOq41 hb; replace HKg1 := Go.Proofs.YthjhenhmjmpkaaaTree.B_b HKg1 hb; replace HS := Go.Proofs.YthjhenhmjmpkaaaTree.Z_b HS hb; replace HB := Go.Proofs.YthjhenhmjmpkaaaTree.H_b HB hb; have HKg44 := Aside0.mk hbox; replace HS : Aside0 (g44 + 1 ≤ w45.heap.size) := ⟨blk_lt hbox⟩; clear hg hbox hb; have hc47 : w45.cell? ⟨g44, 0, none⟩ = some (.int .i64 0) := (blk_cell HKg44.out 0).trans rfl; have hf48 := blk_frozen HKg44.out 0; have hc49 : w45.cell? ⟨g44, 1, none⟩ = some (.int .i64 0) := (blk_cell HKg44.out 1).trans rfl; have hf50 := blk_frozen HKg44.out 1; have hc51 : w45.cell? ⟨g44, 2, none⟩ = some (.int .i64 0) := (blk_cell HKg44.out 2).trans rfl; have hf52 := blk_frozen HKg44.out 2; have hc53 : w45.cell? ⟨g44, 3, none⟩ = some (.slice none 0 0) := (blk_cell HKg44.out 3).trans rfl; have hf54 := blk_frozen HKg44.out 3) | ((with_reducible refine gate_store (t := 29) (p := 5) rfl ?_); refine store_event (t := 29) (p := 5) (v := ?vo_w55) (w1 := ((((w45.setCell ⟨g44, 0, none⟩ (.int .i64 t36)).setCell ⟨g44, 1, none⟩ (.int .i64 t37)).setCell ⟨g44, 2, none⟩ (.int .i64 t38)).setCell ⟨g44, 3, none⟩ (.slice Aq41 t39.length cq41))) ?hg ?ho ?hn ?hr ?_; (case ho => rfl); (case hg => rfl); (case hn => rfl); (case hr => first | (go_simp; done) | (go_simp; rfl)); intro w55 hw; (try clear hc47 hf48 hc49 hf50 hc51 hf52 hc53 hf54); have hge_ : w.heap.size ≤ g44 := (by have := HZ3.out; have := HZ23.out; have := HZ29.out; have := HZ42.out; have := HZ46.out; omega); have hk : Kept w45 w55 (fun x => x = g44) := (by rw [hw]; exact Go.Proofs.YthjhenhmjmpkaaaTree.kept_cell (Go.Proofs.YthjhenhmjmpkaaaTree.kept_cell (Go.Proofs.YthjhenhmjmpkaaaTree.kept_cell (Go.Proofs.YthjhenhmjmpkaaaTree.kept_cell (Kept.refl _ _) 0 _) 1 _) 2 _) 3 _); replace HB : Aside0 (Below w.heap.size w w55) := ⟨by rw [hw]; exact below_set (below_set (below_set (below_set (HB.out) hge_) hge_) hge_) hge_⟩; replace HKg44 : Aside0 (w55.heap[g44]? = some (.cells #[.int .i64 t36, .int .i64 t37, .int .i64 t38, .slice Aq41 t39.length cq41] 29 (0, 0))) := ⟨by rw [hw]; exact blk_put (cs := #[.int .i64 t36, .int .i64 t37, .int .i64 t38, .slice none 0 0]) (blk_put (cs := #[.int .i64 t36, .int .i64 t37, .int .i64 0, .slice none 0 0]) (blk_put (cs := #[.int .i64 t36, .int .i64 0, .int .i64 0, .slice none 0 0]) (blk_put (cs := #[.int .i64 0, .int .i64 0, .int .i64 0, .slice none 0 0]) (HKg44.out) 0 _ rfl) 1 _ rfl) 2 _ rfl) 3 _ rfl⟩; replace HOq22 := Go.Proofs.YthjhenhmjmpkaaaTree.S_k HOq22 hk (fun x h1 h2 => (by have := HZ3.out; have := HZ23.out; have := HZ29.out; have := HZ42.out; have := HZ46.out; have h3_ : Lq22 ≤ x ∧ x < Uq22 := h1; have h4_ : x = g44 := h2; omega)); replace HOq28 := Go.Proofs.YthjhenhmjmpkaaaTree.S_k HOq28 hk (fun x h1 h2 => (by have := HZ3.out; have := HZ23.out; have := HZ29.out; have := HZ42.out; have := HZ46.out; have h3_ : Lq28 ≤ x ∧ x < Uq28 := h1; have h4_ : x = g44 := h2; omega)); replace HOq41 := Go.Proofs.YthjhenhmjmpkaaaTree.S_k HOq41 hk (fun x h1 h2 => (by have := HZ3.out; have := HZ23.out; have := HZ29.out; have := HZ42.out; have := HZ46.out; have h3_ : Lq41 ≤ x ∧ x < Uq41 := h1; have h4_ : x = g44 := h2; omega)); replace HKg1 := Go.Proofs.YthjhenhmjmpkaaaTree.B_k HKg1 hk (fun h2 => (by have := HZ3.out; have := HZ23.out; have := HZ29.out; have := HZ42.out; have := HZ46.out; have h4_ : g1 = g44 := h2; omega)); replace HS := Go.Proofs.YthjhenhmjmpkaaaTree.Z_k HS hk; clear hw hk hge_; have hc56 : w55.cell? ⟨g44, 0, none⟩ = some (.int .i64 t36) := (blk_cell HKg44.out 0).trans rfl; have hc57 : w55.cell? ⟨g44, 1, none⟩ = some (.int .i64 t37) := (blk_cell HKg44.out 1).trans rfl; have hc58 : w55.cell? ⟨g44, 2, none⟩ = some (.int .i64 t38) := (blk_cell HKg44.out 2).trans rfl; have hc59 : w55.cell? ⟨g44, 3, none⟩ = some (.slice Aq41 t39.length cq41) := (blk_cell HKg44.out 3).trans rfl) | ((with_reducible refine gate_callee (f := 8) rfl ?_); refine goesL_ (some 22) rfl rfl Try.func8 (by kernel_rfl) rfl #[.agg #[.int .i64 t36, .int .i64 t37, .int .i64 t38, .slice Aq41 t39.length cq41]] rfl (by (try simp only [List.map_toArray, List.map_cons, List.map_nil]); first | done | rfl) ?_; (with_reducible refine (impl_LeavesOf.calls k t36 t37 t38 _ _ t39 t61 _ ?side1 ?side2 E60.out).mono ?_); (case side1 => exact (Kd.S_reads' HOq41.out).2.2); (case side2 => exact (Kd.S_reads' HOq41.out).2.1); rintro e w62 ⟨v_0, rfl, ho0, hb⟩; obtain ⟨Aq63, cq63, rfl⟩ := Kd.S_slice ho0; refine ⟨_, rfl, ?_⟩; obtain ⟨Lq63, Uq63, HZ64, HZ65, HOq63⟩ := Go.Proofs.YthjhenhmjmpkaaaTree.S_made ho0 HS.out hb HB.out.size; (try clear hc56 hc57 hc58 hc59); replace HOq22 := Go.Proofs.YthjhenhmjmpkaaaTree.S_b HOq22 hb; replace HOq28 := Go.Proofs.YthjhenhmjmpkaaaTree.S_b HOq28 hb; replace HOq41 := Go.Proofs.YthjhenhmjmpkaaaTree.S_b HOq41 hb; replace HKg1 := Go.Proofs.YthjhenhmjmpkaaaTree.B_b HKg1 hb; replace HKg44 := Go.Proofs.YthjhenhmjmpkaaaTree.B_b HKg44 hb; replace HS := Go.Proofs.YthjhenhmjmpkaaaTree.Z_b HS hb; replace HB := Go.Proofs.YthjhenhmjmpkaaaTree.H_b HB hb; replace HS := HZ65; clear ho0; clear hb) | ((with_reducible refine gate_callee (f := 9) rfl ?_); refine goesL_ (some 25) rfl rfl Try.func9 (by kernel_rfl) rfl #[.slice Aq63 t61.length cq63, .slice Aq28 t26.length cq28] rfl (by (try simp only [List.map_toArray, List.map_cons, List.map_nil]); first | done | rfl) ?_; (with_reducible refine (laws_eqCondS.calls k _ _ t61 _ _ t26 true _ ?side1 ?side2 ?side3 ?side4 E66.out).mono ?_); (case side1 => exact (Kd.S_reads' HOq63.out).2.2); (case side2 => exact (Kd.S_reads' HOq63.out).2.1); (case side3 => exact (Kd.S_reads' HOq28.out).2.2); (case side4 => exact (Kd.S_reads' HOq28.out).2.1); rintro e w68 ⟨rfl, hb⟩; refine ⟨_, rfl, ?_⟩; replace HOq22 := Go.Proofs.YthjhenhmjmpkaaaTree.S_b HOq22 hb; replace HOq28 := Go.Proofs.YthjhenhmjmpkaaaTree.S_b HOq28 hb; replace HOq41 := Go.Proofs.YthjhenhmjmpkaaaTree.S_b HOq41 hb; replace HOq63 := Go.Proofs.YthjhenhmjmpkaaaTree.S_b HOq63 hb; replace HKg1 := Go.Proofs.YthjhenhmjmpkaaaTree.B_b HKg1 hb; replace HKg44 := Go.Proofs.YthjhenhmjmpkaaaTree.B_b HKg44 hb; replace HS := Go.Proofs.YthjhenhmjmpkaaaTree.Z_b HS hb; replace HB := Go.Proofs.YthjhenhmjmpkaaaTree.H_b HB hb; clear hb))
  have hb := below_drew (Below.refl w68.heap.size w68)
  replace HOq22 := Go.Proofs.YthjhenhmjmpkaaaTree.S_b HOq22 hb
  replace HOq28 := Go.Proofs.YthjhenhmjmpkaaaTree.S_b HOq28 hb
  replace HOq41 := Go.Proofs.YthjhenhmjmpkaaaTree.S_b HOq41 hb
  replace HOq63 := Go.Proofs.YthjhenhmjmpkaaaTree.S_b HOq63 hb
  replace HKg1 := Go.Proofs.YthjhenhmjmpkaaaTree.B_b HKg1 hb
  replace HKg44 := Go.Proofs.YthjhenhmjmpkaaaTree.B_b HKg44 hb
  replace HS := Go.Proofs.YthjhenhmjmpkaaaTree.Z_b HS hb
  replace HB := Go.Proofs.YthjhenhmjmpkaaaTree.H_b HB hb
  clear hb
  refine start_ (n := 5) (S := fun w' => w'.cell? ⟨g44, 0, none⟩ = some (.int .i64 t36) ∧ w'.cell? ⟨g44, 1, none⟩ = some (.int .i64 t37) ∧ w'.cell? ⟨g44, 2, none⟩ = some (.int .i64 t38) ∧ w'.cell? ⟨g44, 3, none⟩ = some (.slice Aq41 t39.length cq41) ∧ w'.cell? ⟨g1, 0, none⟩ = some (.int .i64 a0_0) ∧ w'.cell? ⟨g1, 1, none⟩ = some (.int .i64 a0_1) ∧ w'.cell? ⟨g1, 2, none⟩ = some (.int .i64 a0_2) ∧ w'.cell? ⟨g1, 3, none⟩ = some (.slice A0_3 l0_3.length c0_3)) (ds := []) #[false, false, false, false, false] (by kernel_rfl) rfl rfl ⟨(blk_cell HKg44.out 0).trans rfl, (blk_cell HKg44.out 1).trans rfl, (blk_cell HKg44.out 2).trans rfl, (blk_cell HKg44.out 3).trans rfl, (blk_cell HKg1.out 0).trans rfl, (blk_cell HKg1.out 1).trans rfl, (blk_cell HKg1.out 2).trans rfl, (blk_cell HKg1.out 3).trans rfl⟩ (fun hHeld => ?_)
  generalize w68.drew = w70 at HOq22 HOq28 HOq41 HOq63 HKg1 HKg44 HB HS hHeld ⊢
  refine take_ (i := 0) (N := some 27) (v := ?_) (a' := ?_) #[true, false, false, false, false] rfl rfl (by kernel_rfl) (fun _ _ _ h => h) (Or.inl ⟨by rfl, ?_⟩) hHeld ?_ ?_
  rotate_left
  · rintro w' ⟨s0, s1, s2, s3, s4, s5, s6, s7⟩
    go_simp
    with_reducible rfl
  rotate_left
  · simp only [Act.put, List.setIfInBounds_toArray, List.set_cons_zero, List.set_cons_succ, i64_w, i32_w]
    rfl
  refine take_ (i := 1) (N := some 28) (v := ?_) (a' := ?_) #[true, true, false, false, false] rfl rfl (by kernel_rfl) (fun _ _ _ h => h) (Or.inl ⟨by rfl, ?_⟩) hHeld ?_ ?_
  rotate_left
  · rintro w' ⟨s0, s1, s2, s3, s4, s5, s6, s7⟩
    go_simp
    with_reducible rfl
  rotate_left
  · simp only [Act.put, List.setIfInBounds_toArray, List.set_cons_zero, List.set_cons_succ, i64_w, i32_w]
    rfl
  refine one_ (i := 2) (N := some 29) #[true, true, true, false, false] rfl rfl (by kernel_rfl) (by decide) (fun K hK => ?_)
  refine goes_ Try.func7 (by kernel_rfl) rfl #[.agg #[.int .i64 a0_0, .int .i64 a0_1, .int .i64 a0_2, .slice A0_3 l0_3.length c0_3]] (by rfl) rfl rfl (by (try simp only [List.map_toArray, List.map_cons, List.map_nil]); first | done | rfl) ?_
  with_reducible refine (laws_toCond.calls k a0_0 a0_1 a0_2 _ _ l0_3 t72 t73 t74 t75 _ ?side1 ?side2 E71.out).mono ?_
  (case side1 => exact Kd.C_below HR0_3.out HB.out)
  (case side2 => exact HC0_3.out)
  rintro e w76 ⟨v_0, rfl, ho0, hb⟩
  obtain ⟨Aq77, cq77, rfl⟩ := Kd.S_slice ho0
  refine ⟨_, rfl, ?_⟩
  obtain ⟨Lq77, Uq77, HZ78, HZ79, HOq77⟩ := Go.Proofs.YthjhenhmjmpkaaaTree.S_made ho0 HS.out hb HB.out.size
  replace HOq22 := Go.Proofs.YthjhenhmjmpkaaaTree.S_b HOq22 hb
  replace HOq28 := Go.Proofs.YthjhenhmjmpkaaaTree.S_b HOq28 hb
  replace HOq41 := Go.Proofs.YthjhenhmjmpkaaaTree.S_b HOq41 hb
  replace HOq63 := Go.Proofs.YthjhenhmjmpkaaaTree.S_b HOq63 hb
  replace HKg1 := Go.Proofs.YthjhenhmjmpkaaaTree.B_b HKg1 hb
  replace HKg44 := Go.Proofs.YthjhenhmjmpkaaaTree.B_b HKg44 hb
  replace HS := Go.Proofs.YthjhenhmjmpkaaaTree.Z_b HS hb
  replace HB := Go.Proofs.YthjhenhmjmpkaaaTree.H_b HB hb
  replace HS := HZ79
  clear ho0
  clear hb
  refine hK.out _ _ ⟨(blk_cell HKg44.out 0).trans rfl, (blk_cell HKg44.out 1).trans rfl, (blk_cell HKg44.out 2).trans rfl, (blk_cell HKg44.out 3).trans rfl, (blk_cell HKg1.out 0).trans rfl, (blk_cell HKg1.out 1).trans rfl, (blk_cell HKg1.out 2).trans rfl, (blk_cell HKg1.out 3).trans rfl⟩ (fun hHeld => ?_)
  clear hK K
  refine norm_ (a' := ?_) ?_ ?_
  rotate_left
  · show Act.put _ (some 29) _ = _
    simp only [Act.put, List.setIfInBounds_toArray, List.set_cons_zero, List.set_cons_succ, i64_w, i32_w]
    rfl
  refine one_ (i := 3) (N := some 30) #[true, true, true, true, false] rfl rfl (by kernel_rfl) (by decide) (fun K hK => ?_)
  refine goes_ Try.func10 (by kernel_rfl) rfl #[.agg #[.int .i64 t36, .int .i64 t37, .int .i64 t38, .slice Aq41 t39.length cq41], .agg #[.int .i64 t72, .int .i64 t73, .int .i64 t74, .slice Aq77 t75.length cq77]] (by rfl) rfl rfl (by (try simp only [List.map_toArray, List.map_cons, List.map_nil]); first | done | rfl) ?_
  with_reducible refine (laws_eqCond.calls k t36 t37 t38 _ _ t39 t72 t73 t74 _ _ t75 true _ ?side1 ?side2 ?side3 ?side4 E80.out).mono ?_
  (case side1 => exact (Kd.S_reads' HOq41.out).2.2)
  (case side2 => exact (Kd.S_reads' HOq41.out).2.1)
  (case side3 => exact (Kd.S_reads' HOq77.out).2.2)
  (case side4 => exact (Kd.S_reads' HOq77.out).2.1)
  rintro e w82 ⟨rfl, hb⟩
  refine ⟨_, rfl, ?_⟩
  replace HOq22 := Go.Proofs.YthjhenhmjmpkaaaTree.S_b HOq22 hb
  replace HOq28 := Go.Proofs.YthjhenhmjmpkaaaTree.S_b HOq28 hb
  replace HOq41 := Go.Proofs.YthjhenhmjmpkaaaTree.S_b HOq41 hb
  replace HOq63 := Go.Proofs.YthjhenhmjmpkaaaTree.S_b HOq63 hb
  replace HOq77 := Go.Proofs.YthjhenhmjmpkaaaTree.S_b HOq77 hb
  replace HKg1 := Go.Proofs.YthjhenhmjmpkaaaTree.B_b HKg1 hb
  replace HKg44 := Go.Proofs.YthjhenhmjmpkaaaTree.B_b HKg44 hb
  replace HS := Go.Proofs.YthjhenhmjmpkaaaTree.Z_b HS hb
  replace HB := Go.Proofs.YthjhenhmjmpkaaaTree.H_b HB hb
  clear hb
  refine hK.out _ _ ⟨(blk_cell HKg44.out 0).trans rfl, (blk_cell HKg44.out 1).trans rfl, (blk_cell HKg44.out 2).trans rfl, (blk_cell HKg44.out 3).trans rfl, (blk_cell HKg1.out 0).trans rfl, (blk_cell HKg1.out 1).trans rfl, (blk_cell HKg1.out 2).trans rfl, (blk_cell HKg1.out 3).trans rfl⟩ (fun hHeld => ?_)
  clear hK K
  refine norm_ (a' := ?_) ?_ ?_
  rotate_left
  · show Act.put _ (some 30) _ = _
    simp only [Act.put, List.setIfInBounds_toArray, List.set_cons_zero, List.set_cons_succ, i64_w, i32_w]
    rfl
  refine pure_ (i := 4) (N := some 31) (v := ?_) (a' := ?_) #[true, true, true, true, true] rfl rfl (by kernel_rfl) (fun _ _ _ h => h) (Or.inl ⟨by rfl, ?_⟩) ?_ ?_
  rotate_left
  · intro w'
    go_simp
    with_reducible rfl
  rotate_left
  · simp only [Act.put, List.setIfInBounds_toArray, List.set_cons_zero, List.set_cons_succ, i64_w, i32_w]
    rfl
  refine done_ (by kernel_rfl) ?_
  have hc84 : w82.cell? ⟨g44, 0, none⟩ = some (.int .i64 t36) := (blk_cell HKg44.out 0).trans rfl
  have hc85 : w82.cell? ⟨g44, 1, none⟩ = some (.int .i64 t37) := (blk_cell HKg44.out 1).trans rfl
  have hc86 : w82.cell? ⟨g44, 2, none⟩ = some (.int .i64 t38) := (blk_cell HKg44.out 2).trans rfl
  have hc87 : w82.cell? ⟨g44, 3, none⟩ = some (.slice Aq41 t39.length cq41) := (blk_cell HKg44.out 3).trans rfl
  go_wp2_with (first | ((with_reducible refine gate_callee (f := 11) rfl ?_); refine goesL_ (some 34) rfl rfl Try.func11 (by kernel_rfl) rfl #[.agg #[.int .i64 t36, .int .i64 t37, .int .i64 t38, .slice Aq41 t39.length cq41], .int .i64 1] rfl (by (try simp only [List.map_toArray, List.map_cons, List.map_nil]); first | done | rfl) ?_; (with_reducible refine (laws_markCond.calls t36 t37 t38 (fun x => Lq41 ≤ x ∧ x < Uq41) (.slice Aq41 t39.length cq41) t39 1 t89 t90 w _ ?side1 ?side2 E88.out).mono ?_); (case side1 => exact HB.out); (case side2 => exact HOq41.out); rintro e w91 ⟨rfl, hy_, hb_, hk⟩; refine ⟨_, rfl, ?_⟩; (try clear hc84 hc85 hc86 hc87); replace HOq22 := Go.Proofs.YthjhenhmjmpkaaaTree.S_k HOq22 hk (fun x h1 h2 => (by have := HZ3.out; have := HZ23.out; have := HZ29.out; have := HZ42.out; have := HZ46.out; have := HZ64.out; have := HZ78.out; have h3_ : Lq22 ≤ x ∧ x < Uq22 := h1; have h4_ : Lq41 ≤ x ∧ x < Uq41 := h2; omega)); replace HOq28 := Go.Proofs.YthjhenhmjmpkaaaTree.S_k HOq28 hk (fun x h1 h2 => (by have := HZ3.out; have := HZ23.out; have := HZ29.out; have := HZ42.out; have := HZ46.out; have := HZ64.out; have := HZ78.out; have h3_ : Lq28 ≤ x ∧ x < Uq28 := h1; have h4_ : Lq41 ≤ x ∧ x < Uq41 := h2; omega)); replace HOq63 := Go.Proofs.YthjhenhmjmpkaaaTree.S_k HOq63 hk (fun x h1 h2 => (by have := HZ3.out; have := HZ23.out; have := HZ29.out; have := HZ42.out; have := HZ46.out; have := HZ64.out; have := HZ78.out; have h3_ : Lq63 ≤ x ∧ x < Uq63 := h1; have h4_ : Lq41 ≤ x ∧ x < Uq41 := h2; omega)); replace HOq77 := Go.Proofs.YthjhenhmjmpkaaaTree.S_k HOq77 hk (fun x h1 h2 => (by have := HZ3.out; have := HZ23.out; have := HZ29.out; have := HZ42.out; have := HZ46.out; have := HZ64.out; have := HZ78.out; have h3_ : Lq77 ≤ x ∧ x < Uq77 := h1; have h4_ : Lq41 ≤ x ∧ x < Uq41 := h2; omega)); replace HKg1 := Go.Proofs.YthjhenhmjmpkaaaTree.B_k HKg1 hk (fun h2 => (by have := HZ3.out; have := HZ23.out; have := HZ29.out; have := HZ42.out; have := HZ46.out; have := HZ64.out; have := HZ78.out; have h4_ : Lq41 ≤ g1 ∧ g1 < Uq41 := h2; omega)); replace HKg44 := Go.Proofs.YthjhenhmjmpkaaaTree.B_k HKg44 hk (fun h2 => (by have := HZ3.out; have := HZ23.out; have := HZ29.out; have := HZ42.out; have := HZ46.out; have := HZ64.out; have := HZ78.out; have h4_ : Lq41 ≤ g44 ∧ g44 < Uq41 := h2; omega)); replace HS := Go.Proofs.YthjhenhmjmpkaaaTree.Z_k HS hk; replace HB := Aside0.mk hb_; have HLN92 : Aside0 (t39.length = t90.length) := ⟨(Kd.S_reads' hy_).1⟩; replace HOq41 := Aside0.mk hy_; (try clear hk hb_); (try clear hy_)) | (go_at_call 9; (with_reducible refine (laws_eqCondS.calls k _ _ t61 _ _ t26 true _ ?side1 ?side2 ?side3 ?side4 E94.out).mono ?_); (case side1 => exact (Kd.S_reads' HOq63.out).2.2); (case side2 => exact (Kd.S_reads' HOq63.out).2.1); (case side3 => exact (Kd.S_reads' HOq28.out).2.2); (case side4 => exact (Kd.S_reads' HOq28.out).2.1); rintro e w96 ⟨rfl, hb⟩; replace HOq22 := Go.Proofs.YthjhenhmjmpkaaaTree.S_b HOq22 hb; replace HOq28 := Go.Proofs.YthjhenhmjmpkaaaTree.S_b HOq28 hb; replace HOq41 := Go.Proofs.YthjhenhmjmpkaaaTree.S_b HOq41 hb; replace HOq63 := Go.Proofs.YthjhenhmjmpkaaaTree.S_b HOq63 hb; replace HOq77 := Go.Proofs.YthjhenhmjmpkaaaTree.S_b HOq77 hb; replace HKg1 := Go.Proofs.YthjhenhmjmpkaaaTree.B_b HKg1 hb; replace HKg44 := Go.Proofs.YthjhenhmjmpkaaaTree.B_b HKg44 hb; replace HS := Go.Proofs.YthjhenhmjmpkaaaTree.Z_b HS hb; replace HB := Go.Proofs.YthjhenhmjmpkaaaTree.H_b HB hb; clear hb) | ((with_reducible refine gate_callee (f := 12) rfl ?_); refine goesL_ (some 45) rfl rfl Try.func12 (by kernel_rfl) rfl #[.slice Aq63 t61.length cq63, .int .i64 1] rfl (by (try simp only [List.map_toArray, List.map_cons, List.map_nil]); first | done | rfl) ?_; (with_reducible refine (laws_markCondS.calls (fun x => Lq63 ≤ x ∧ x < Uq63) (.slice Aq63 t61.length cq63) t61 1 t99 t100 w _ ?side1 ?side2 E98.out).mono ?_); (case side1 => exact HB.out); (case side2 => exact HOq63.out); rintro e w101 ⟨rfl, hy_, hb_, hk⟩; refine ⟨_, rfl, ?_⟩; replace HOq22 := Go.Proofs.YthjhenhmjmpkaaaTree.S_k HOq22 hk (fun x h1 h2 => (by have := HZ3.out; have := HZ23.out; have := HZ29.out; have := HZ42.out; have := HZ46.out; have := HZ64.out; have := HZ78.out; have h3_ : Lq22 ≤ x ∧ x < Uq22 := h1; have h4_ : Lq63 ≤ x ∧ x < Uq63 := h2; omega)); replace HOq28 := Go.Proofs.YthjhenhmjmpkaaaTree.S_k HOq28 hk (fun x h1 h2 => (by have := HZ3.out; have := HZ23.out; have := HZ29.out; have := HZ42.out; have := HZ46.out; have := HZ64.out; have := HZ78.out; have h3_ : Lq28 ≤ x ∧ x < Uq28 := h1; have h4_ : Lq63 ≤ x ∧ x < Uq63 := h2; omega)); replace HOq41 := Go.Proofs.YthjhenhmjmpkaaaTree.S_k HOq41 hk (fun x h1 h2 => (by have := HZ3.out; have := HZ23.out; have := HZ29.out; have := HZ42.out; have := HZ46.out; have := HZ64.out; have := HZ78.out; have h3_ : Lq41 ≤ x ∧ x < Uq41 := h1; have h4_ : Lq63 ≤ x ∧ x < Uq63 := h2; omega)); replace HOq77 := Go.Proofs.YthjhenhmjmpkaaaTree.S_k HOq77 hk (fun x h1 h2 => (by have := HZ3.out; have := HZ23.out; have := HZ29.out; have := HZ42.out; have := HZ46.out; have := HZ64.out; have := HZ78.out; have h3_ : Lq77 ≤ x ∧ x < Uq77 := h1; have h4_ : Lq63 ≤ x ∧ x < Uq63 := h2; omega)); replace HKg1 := Go.Proofs.YthjhenhmjmpkaaaTree.B_k HKg1 hk (fun h2 => (by have := HZ3.out; have := HZ23.out; have := HZ29.out; have := HZ42.out; have := HZ46.out; have := HZ64.out; have := HZ78.out; have h4_ : Lq63 ≤ g1 ∧ g1 < Uq63 := h2; omega)); replace HKg44 := Go.Proofs.YthjhenhmjmpkaaaTree.B_k HKg44 hk (fun h2 => (by have := HZ3.out; have := HZ23.out; have := HZ29.out; have := HZ42.out; have := HZ46.out; have := HZ64.out; have := HZ78.out; have h4_ : Lq63 ≤ g44 ∧ g44 < Uq63 := h2; omega)); replace HS := Go.Proofs.YthjhenhmjmpkaaaTree.Z_k HS hk; replace HB := Aside0.mk hb_; have HLN102 : Aside0 (t61.length = t100.length) := ⟨(Kd.S_reads' hy_).1⟩; replace HOq63 := Aside0.mk hy_; (try clear hk hb_); (try clear hy_)) | ((with_reducible refine gate_callee (f := 13) rfl ?_); refine goesL_ (some 48) rfl rfl Try.func13 (by kernel_rfl) rfl #[.slice Aq63 t61.length cq63, .int .i64 1] rfl (by (try simp only [List.map_toArray, List.map_cons, List.map_nil]); first | done | rfl) ?_; rw [HLN102.out]; (with_reducible refine (laws_heldCondS.calls k _ _ t100 1 t99 _ ?side1 ?side2 E103.out).mono ?_); (case side1 => exact (Kd.S_reads' HOq63.out).2.2); (case side2 => (have h1_ := (Kd.S_reads' HOq63.out).2.1; have h2_ := HLN102.out; omega)); rintro e w105 ⟨rfl, hd_⟩; refine ⟨_, rfl, ?_⟩; (try rw [← HLN102.out]); have hb := Drawn0.below hd_; clear hd_; replace HOq22 := Go.Proofs.YthjhenhmjmpkaaaTree.S_b HOq22 hb; replace HOq28 := Go.Proofs.YthjhenhmjmpkaaaTree.S_b HOq28 hb; replace HOq41 := Go.Proofs.YthjhenhmjmpkaaaTree.S_b HOq41 hb; replace HOq63 := Go.Proofs.YthjhenhmjmpkaaaTree.S_b HOq63 hb; replace HOq77 := Go.Proofs.YthjhenhmjmpkaaaTree.S_b HOq77 hb; replace HKg1 := Go.Proofs.YthjhenhmjmpkaaaTree.B_b HKg1 hb; replace HKg44 := Go.Proofs.YthjhenhmjmpkaaaTree.B_b HKg44 hb; replace HS := Go.Proofs.YthjhenhmjmpkaaaTree.Z_b HS hb; replace HB := Go.Proofs.YthjhenhmjmpkaaaTree.H_b HB hb; clear hb; have hc106 : w105.cell? ⟨g1, 0, none⟩ = some (.int .i64 a0_0) := (blk_cell HKg1.out 0).trans rfl; have hc107 : w105.cell? ⟨g1, 1, none⟩ = some (.int .i64 a0_1) := (blk_cell HKg1.out 1).trans rfl; have hc108 : w105.cell? ⟨g1, 2, none⟩ = some (.int .i64 a0_2) := (blk_cell HKg1.out 2).trans rfl; have hc109 : w105.cell? ⟨g1, 3, none⟩ = some (.slice A0_3 l0_3.length c0_3) := (blk_cell HKg1.out 3).trans rfl) | ((with_reducible refine gate_callee (f := 7) rfl ?_); refine goesL_ (some 55) rfl rfl Try.func7 (by kernel_rfl) rfl #[.agg #[.int .i64 a0_0, .int .i64 a0_1, .int .i64 a0_2, .slice A0_3 l0_3.length c0_3]] rfl (by (try simp only [List.map_toArray, List.map_cons, List.map_nil]); first | done | rfl) ?_; (with_reducible refine (laws_toCond.calls k a0_0 a0_1 a0_2 _ _ l0_3 t113 t114 t115 t116 _ ?side1 ?side2 E112.out).mono ?_); (case side1 => exact Kd.C_below HR0_3.out HB.out); (case side2 => exact HC0_3.out); rintro e w117 ⟨v_0, rfl, ho0, hb⟩; obtain ⟨Aq118, cq118, rfl⟩ := Kd.S_slice ho0; refine ⟨_, rfl, ?_⟩; obtain ⟨Lq118, Uq118, HZ119, HZ120, HOq118⟩ := Go.Proofs.YthjhenhmjmpkaaaTree.S_made ho0 HS.out hb HB.out.size; (try clear hc106 hc107 hc108 hc109); replace HOq22 := Go.Proofs.YthjhenhmjmpkaaaTree.S_b HOq22 hb; replace HOq28 := Go.Proofs.YthjhenhmjmpkaaaTree.S_b HOq28 hb; replace HOq41 := Go.Proofs.YthjhenhmjmpkaaaTree.S_b HOq41 hb; replace HOq63 := Go.Proofs.YthjhenhmjmpkaaaTree.S_b HOq63 hb; replace HOq77 := Go.Proofs.YthjhenhmjmpkaaaTree.S_b HOq77 hb; replace HKg1 := Go.Proofs.YthjhenhmjmpkaaaTree.B_b HKg1 hb; replace HKg44 := Go.Proofs.YthjhenhmjmpkaaaTree.B_b HKg44 hb; replace HS := Go.Proofs.YthjhenhmjmpkaaaTree.Z_b HS hb; replace HB := Go.Proofs.YthjhenhmjmpkaaaTree.H_b HB hb; replace HS := HZ120; clear ho0; clear hb) | ((with_reducible refine gate_callee (f := 8) rfl ?_); refine goesL_ (some 56) rfl rfl Try.func8 (by kernel_rfl) rfl #[.agg #[.int .i64 t113, .int .i64 t114, .int .i64 t115, .slice Aq118 t116.length cq118]] rfl (by (try simp only [List.map_toArray, List.map_cons, List.map_nil]); first | done | rfl) ?_; (with_reducible refine (impl_LeavesOf.calls k t113 t114 t115 _ _ t116 t122 _ ?side1 ?side2 E121.out).mono ?_); (case side1 => exact (Kd.S_reads' HOq118.out).2.2); (case side2 => exact (Kd.S_reads' HOq118.out).2.1); rintro e w123 ⟨v_0, rfl, ho0, hb⟩; obtain ⟨Aq124, cq124, rfl⟩ := Kd.S_slice ho0; refine ⟨_, rfl, ?_⟩; obtain ⟨Lq124, Uq124, HZ125, HZ126, HOq124⟩ := Go.Proofs.YthjhenhmjmpkaaaTree.S_made ho0 HS.out hb HB.out.size; replace HOq22 := Go.Proofs.YthjhenhmjmpkaaaTree.S_b HOq22 hb; replace HOq28 := Go.Proofs.YthjhenhmjmpkaaaTree.S_b HOq28 hb; replace HOq41 := Go.Proofs.YthjhenhmjmpkaaaTree.S_b HOq41 hb; replace HOq63 := Go.Proofs.YthjhenhmjmpkaaaTree.S_b HOq63 hb; replace HOq77 := Go.Proofs.YthjhenhmjmpkaaaTree.S_b HOq77 hb; replace HOq118 := Go.Proofs.YthjhenhmjmpkaaaTree.S_b HOq118 hb; replace HKg1 := Go.Proofs.YthjhenhmjmpkaaaTree.B_b HKg1 hb; replace HKg44 := Go.Proofs.YthjhenhmjmpkaaaTree.B_b HKg44 hb; replace HS := Go.Proofs.YthjhenhmjmpkaaaTree.Z_b HS hb; replace HB := Go.Proofs.YthjhenhmjmpkaaaTree.H_b HB hb; replace HS := HZ126; clear ho0; clear hb) | ((with_reducible refine gate_callee (f := 9) rfl ?_); refine goesL_ (some 59) rfl rfl Try.func9 (by kernel_rfl) rfl #[.slice Aq124 t122.length cq124, .slice Aq28 t26.length cq28] rfl (by (try simp only [List.map_toArray, List.map_cons, List.map_nil]); first | done | rfl) ?_; (with_reducible refine (laws_eqCondS.calls k _ _ t122 _ _ t26 true _ ?side1 ?side2 ?side3 ?side4 E127.out).mono ?_); (case side1 => exact (Kd.S_reads' HOq124.out).2.2); (case side2 => exact (Kd.S_reads' HOq124.out).2.1); (case side3 => exact (Kd.S_reads' HOq28.out).2.2); (case side4 => exact (Kd.S_reads' HOq28.out).2.1); rintro e w129 ⟨rfl, hb⟩; refine ⟨_, rfl, ?_⟩; replace HOq22 := Go.Proofs.YthjhenhmjmpkaaaTree.S_b HOq22 hb; replace HOq28 := Go.Proofs.YthjhenhmjmpkaaaTree.S_b HOq28 hb; replace HOq41 := Go.Proofs.YthjhenhmjmpkaaaTree.S_b HOq41 hb; replace HOq63 := Go.Proofs.YthjhenhmjmpkaaaTree.S_b HOq63 hb; replace HOq77 := Go.Proofs.YthjhenhmjmpkaaaTree.S_b HOq77 hb; replace HOq118 := Go.Proofs.YthjhenhmjmpkaaaTree.S_b HOq118 hb; replace HOq124 := Go.Proofs.YthjhenhmjmpkaaaTree.S_b HOq124 hb; replace HKg1 := Go.Proofs.YthjhenhmjmpkaaaTree.B_b HKg1 hb; replace HKg44 := Go.Proofs.YthjhenhmjmpkaaaTree.B_b HKg44 hb; replace HS := Go.Proofs.YthjhenhmjmpkaaaTree.Z_b HS hb; replace HB := Go.Proofs.YthjhenhmjmpkaaaTree.H_b HB hb; clear hb) | ((with_reducible refine gate_callee (f := 13) rfl ?_); refine goesL_ (some 63) rfl rfl Try.func13 (by kernel_rfl) rfl #[.slice Aq63 t61.length cq63, .int .i64 1] rfl (by (try simp only [List.map_toArray, List.map_cons, List.map_nil]); first | done | rfl) ?_; rw [HLN102.out]; (with_reducible refine (laws_heldCondS.calls k _ _ t100 1 t99 _ ?side1 ?side2 E131.out).mono ?_); (case side1 => exact (Kd.S_reads' HOq63.out).2.2); (case side2 => (have h1_ := (Kd.S_reads' HOq63.out).2.1; have h2_ := HLN102.out; omega)); rintro e w133 ⟨rfl, hd_⟩; refine ⟨_, rfl, ?_⟩; (try rw [← HLN102.out]); have hb := Drawn0.below hd_; clear hd_; replace HOq22 := Go.Proofs.YthjhenhmjmpkaaaTree.S_b HOq22 hb; replace HOq28 := Go.Proofs.YthjhenhmjmpkaaaTree.S_b HOq28 hb; replace HOq41 := Go.Proofs.YthjhenhmjmpkaaaTree.S_b HOq41 hb; replace HOq63 := Go.Proofs.YthjhenhmjmpkaaaTree.S_b HOq63 hb; replace HOq77 := Go.Proofs.YthjhenhmjmpkaaaTree.S_b HOq77 hb; replace HOq118 := Go.Proofs.YthjhenhmjmpkaaaTree.S_b HOq118 hb; replace HOq124 := Go.Proofs.YthjhenhmjmpkaaaTree.S_b HOq124 hb; replace HKg1 := Go.Proofs.YthjhenhmjmpkaaaTree.B_b HKg1 hb; replace HKg44 := Go.Proofs.YthjhenhmjmpkaaaTree.B_b HKg44 hb; replace HS := Go.Proofs.YthjhenhmjmpkaaaTree.Z_b HS hb; replace HB := Go.Proofs.YthjhenhmjmpkaaaTree.H_b HB hb; clear hb))
  go_ret
  exact ⟨rfl, HB.out⟩
inductive wf24 : S24 → Prop
  | mk (f0 : Int) (f1 : Int) (f2 : Int) (f3 : List (S24)) : ((Lit.int .i64 f0).wf = true) → ((Lit.int .i64 f1).wf = true) → ((Lit.int .i64 f2).wf = true) → (f3.length ≤ maxLen) → (∀ y ∈ f3, wf24 y) → wf24 ⟨f0, f1, f2, f3⟩
/-- THE ONE PURE STATEMENT of laws_FnExactLeavesOf. -/
def laws_FnExactLeavesOf.Pure : Prop := ∀ (a0_0 : Int) (a0_1 : Int) (a0_2 : Int) (l0_3 : List (S24)), ((Lit.int .i64 a0_0).wf = true) → ((Lit.int .i64 a0_1).wf = true) → ((Lit.int .i64 a0_2).wf = true) → ((l0_3.length ≤ maxLen ∧ ∀ y4 ∈ l0_3, wf24 y4)) → ∃ k, laws_FnExactLeavesOf.f k a0_0 a0_1 a0_2 l0_3 = some true

end Go.Proofs.Ythjhenhmjmpkaaa.XFnExactLeavesOf
