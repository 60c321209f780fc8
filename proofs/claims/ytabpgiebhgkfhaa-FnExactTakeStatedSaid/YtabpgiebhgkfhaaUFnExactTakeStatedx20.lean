/- Written by this session's own program (wip/xprint, which runs over the kit's print): what the functions that the law reaches come to, each proved; and the law's row. Conditions: none. -/
import Derived.Test.YtabpgiebhgkfhaaUFnExactTakeStatedSq
import Derived.Test.YtabpgiebhgkfhaaUFnExactTakeStatedx0
import Derived.Test.YtabpgiebhgkfhaaUFnExactTakeStatedx19
namespace Go.Proofs.Ytabpgiebhgkfhaa.XFnExactTakeStated
open Go.RowKit Go.Proofs.YtabpgiebhgkfhaaW.PrintWords Go.Proofs.YtabpgiebhgkfhaaW.PrintLast Go.Proofs.YtabpgiebhgkfhaaW.PrintMore Go.Proofs.YtabpgiebhgkfhaaSq
attribute [local go_sem] max2_int min2_int max_two min_two max_three min_three max_four min_four   -- for this text's walks alone
set_option linter.unusedVariables false
set_option linter.unusedSimpArgs false

/-! ### laws_eqStatedS: function 25 -/
def laws_eqStatedS.l0 : Nat → List (S76) → List (S76) → Int → Option (Bool)
 | 0, _, _, _ => none
 | k + 1, x0, x1, x5 => if x5 < (x0.length : Int) then (if 0 ≤ x5 then (if x5 < (x1.length : Int) then ((laws_eqStated.f ((rd_T76 x0 x5).f0.f0) ((rd_T76 x0 x5).f0.f1) ((rd_T76 x0 x5).f0.f2) ((rd_T76 x0 x5).f0.f3) ((rd_T76 x0 x5).f0.f4) ((rd_T76 x0 x5).f0.f5) ((rd_T76 x0 x5).f1) ((rd_T76 x1 x5).f0.f0) ((rd_T76 x1 x5).f0.f1) ((rd_T76 x1 x5).f0.f2) ((rd_T76 x1 x5).f0.f3) ((rd_T76 x1 x5).f0.f4) ((rd_T76 x1 x5).f0.f5) ((rd_T76 x1 x5).f1)).bind fun t444 => (if t444 = true then (laws_eqStatedS.l0 k x0 x1 (wrap64 (x5 + 1))) else (some false))) else (none)) else (none)) else (some true)
def laws_eqStatedS.f (k : Nat) (l0 : List (S76)) (l1 : List (S76)) : Option (Bool) := if (l0.length : Int) = (l1.length : Int) then (laws_eqStatedS.l0 k l0 l1 0) else (some false)
def laws_eqStatedS.T6 : Bool × List (List Nat × List Nat) := (true, [([], []), ([], []), ([0, 1], [0, 1]), ([2], [2]), ([], []), ([], []), ([4, 5], [4, 5]), ([6], [6]), ([3, 7], [3, 7]), ([8], [8])])
def laws_eqStatedS.B6 : List Nat := [0, 0, 3, 7, 0, 0, 48, 112, 255, 511]
theorem laws_eqStatedS.tab6 : rtab .any (opsOf Try.f25 6) = laws_eqStatedS.T6 := by kernel_rfl
theorem laws_eqStatedS.bits6 : waitsOk laws_eqStatedS.T6.2 laws_eqStatedS.B6 = true := by kernel_rfl
set_option maxHeartbeats 8000000 in
set_option maxRecDepth 100000 in
theorem laws_eqStatedS.calls (k : Nat) (A0 : Option Addr) (c0 : Nat) (l0 : List (S76)) (A1 : Option Addr) (c1 : Nat) (l1 : List (S76)) (r : Bool) (w : World) (hr0 : Kd.C k76 w A0 l0.length l0) (hc0 : l0.length ≤ c0) (hr1 : Kd.C k76 w A1 l1.length l1) (hc1 : l1.length ≤ c1) (h : laws_eqStatedS.f k l0 l1 = some r) :
  Calls Try.prog 25 #[.slice A0 l0.length c0, .slice A1 l1.length c1] w fun e w' => e = .returned (.bool r) ∧ Below w.heap.size w w' := by
 have hu76 := Try.underlying76
 have HR0 := Aside0.mk hr0
 have HC0 := Aside0.mk hc0
 clear hr0 hc0
 have HR1 := Aside0.mk hr1
 have HC1 := Aside0.mk hc1
 clear hr1 hc1
 have HB := Aside0.mk (Below.refl w.heap.size w)
 have H : (if (l0.length : Int) = (l1.length : Int) then (laws_eqStatedS.l0 k l0 l1 0) else (some false)) = some r := h
 clear h
 by_cases c3 : (l0.length : Int) = (l1.length : Int)
 ·rw [if_pos c3] at H
  have c3b0 : ((l0.length : Int) == (l1.length : Int)) = true := beq_iff_eq.mpr c3
  have c3b1 : ((l0.length : Int) != (l1.length : Int)) = false := bne_eq_false_iff_eq.mpr c3
  have c3b2 : (l0.length == l1.length) = true := by first | simpa using c3 | (simp at c3 ⊢; omega)
  clear c3
  have H' := Aside0.mk H
  clear H
  go_enter Try.func25, Try.ntmps25
  go_wp2
  go_loopg [5] k (fun kq v5 w' => ∃ (x5_1 : Int), v5 = .int .i64 x5_1 ∧ Aside0 (laws_eqStatedS.l0 kq l0 l1 x5_1 = some r) ∧ Aside0 (kq ≤ k) ∧ Aside0 (Below w.heap.size w w'))
  case atStart => exact ⟨(0), r_, H', ⟨Nat.le_refl _⟩, ⟨h_⟩⟩
  case round =>
   clear H'; try clear c1; try clear c2; try clear p2; try clear c3; try clear c3b0; try clear c3b1; try clear c3b2
   obtain ⟨x5_1, rfl, HA, HK1, HB⟩ := hrel
   cases gk with
   | zero => exact absurd HA.out (by simp [laws_eqStatedS.l0])
   | succ k1 =>
    have H := HA.out
    clear HA
    simp only [laws_eqStatedS.l0] at H
    by_cases c4 : x5_1 < (l0.length : Int)
    ·rw [if_pos c4] at H
     have c4b0 : decide (x5_1 < (l0.length : Int)) = true := decide_eq_true c4
     clear c4
     by_cases c5 : 0 ≤ x5_1
     ·rw [if_pos c5] at H
      have c5b0 : decide (0 ≤ x5_1) = true := decide_eq_true c5
      clear c5
      by_cases c6 : x5_1 < (l1.length : Int)
      ·rw [if_pos c6] at H
       have c6b0 : decide (x5_1 < (l1.length : Int)) = true := decide_eq_true c6
       clear c6
       obtain ⟨t444, A7, H⟩ := bA H
       by_cases c8 : t444 = true
       ·subst c8
        replace H := iT H
        have H' := Aside0.mk H
        clear H
        try go_wp2
        replace HB := Aside0.mk (below_drew1 HB.out)
        have p442 : 0 ≤ (x5_1 : Int) := of_decide_eq_true s_
        have q442 : x5_1 < (l0.length : Int) := of_decide_eq_true s_
        obtain ⟨ad442, e442, hx442_0, hx442_1, hx442_2, hx442_3, hx442_4, hx442_5, hx442_6⟩ := at_T76 HR0.out x5_1 p442 q442
        have hw442_6 := hx442_6; have hw442_5 := hx442_5; have hw442_4 := hx442_4; have hw442_3 := hx442_3; have hw442_2 := hx442_2; have hw442_1 := hx442_1; have hw442_0 := hx442_0
        cases e442
        replace hx442_0 := cl HB hx442_0; replace hx442_1 := cl HB hx442_1; replace hx442_2 := cl HB hx442_2; replace hx442_3 := cl HB hx442_3; replace hx442_4 := cl HB hx442_4; replace hx442_5 := cl HB hx442_5; replace hx442_6 := cl HB hx442_6
        replace p442 := eq_true p442
        replace q442 := eq_true q442
        have p443 : 0 ≤ (x5_1 : Int) := of_decide_eq_true s_
        have q443 : x5_1 < (l1.length : Int) := of_decide_eq_true s_
        obtain ⟨ad443, e443, hx443_0, hx443_1, hx443_2, hx443_3, hx443_4, hx443_5, hx443_6⟩ := at_T76 HR1.out x5_1 p443 q443
        have hw443_6 := hx443_6; have hw443_5 := hx443_5; have hw443_4 := hx443_4; have hw443_3 := hx443_3; have hw443_2 := hx443_2; have hw443_1 := hx443_1; have hw443_0 := hx443_0
        cases e443
        replace hx443_0 := cl HB hx443_0; replace hx443_1 := cl HB hx443_1; replace hx443_2 := cl HB hx443_2; replace hx443_3 := cl HB hx443_3; replace hx443_4 := cl HB hx443_4; replace hx443_5 := cl HB hx443_5; replace hx443_6 := cl HB hx443_6
        replace p443 := eq_true p443
        replace q443 := eq_true q443
        refine start_ (n := 10) (S := fun w' => w'.cell? (ad442.add ((x5_1).toNat * 7)) = some (.int .i64 ((rd_T76 l0 x5_1).f0.f0)) ∧ w'.cell? ⟨(ad442.add ((x5_1).toNat * 7)).block, (ad442.add ((x5_1).toNat * 7)).off + 1, none⟩ = some (.int .i64 ((rd_T76 l0 x5_1).f0.f1)) ∧ w'.cell? ⟨(ad442.add ((x5_1).toNat * 7)).block, (ad442.add ((x5_1).toNat * 7)).off + 2, none⟩ = some (.int .i64 ((rd_T76 l0 x5_1).f0.f2)) ∧ w'.cell? ⟨(ad442.add ((x5_1).toNat * 7)).block, (ad442.add ((x5_1).toNat * 7)).off + 3, none⟩ = some (.int .i64 ((rd_T76 l0 x5_1).f0.f3)) ∧ w'.cell? ⟨(ad442.add ((x5_1).toNat * 7)).block, (ad442.add ((x5_1).toNat * 7)).off + 4, none⟩ = some (.int .i64 ((rd_T76 l0 x5_1).f0.f4)) ∧ w'.cell? ⟨(ad442.add ((x5_1).toNat * 7)).block, (ad442.add ((x5_1).toNat * 7)).off + 5, none⟩ = some (.int .i64 ((rd_T76 l0 x5_1).f0.f5)) ∧ w'.cell? ⟨(ad442.add ((x5_1).toNat * 7)).block, (ad442.add ((x5_1).toNat * 7)).off + 6, none⟩ = some (.int .i64 ((rd_T76 l0 x5_1).f1)) ∧ w'.cell? (ad443.add ((x5_1).toNat * 7)) = some (.int .i64 ((rd_T76 l1 x5_1).f0.f0)) ∧ w'.cell? ⟨(ad443.add ((x5_1).toNat * 7)).block, (ad443.add ((x5_1).toNat * 7)).off + 1, none⟩ = some (.int .i64 ((rd_T76 l1 x5_1).f0.f1)) ∧ w'.cell? ⟨(ad443.add ((x5_1).toNat * 7)).block, (ad443.add ((x5_1).toNat * 7)).off + 2, none⟩ = some (.int .i64 ((rd_T76 l1 x5_1).f0.f2)) ∧ w'.cell? ⟨(ad443.add ((x5_1).toNat * 7)).block, (ad443.add ((x5_1).toNat * 7)).off + 3, none⟩ = some (.int .i64 ((rd_T76 l1 x5_1).f0.f3)) ∧ w'.cell? ⟨(ad443.add ((x5_1).toNat * 7)).block, (ad443.add ((x5_1).toNat * 7)).off + 4, none⟩ = some (.int .i64 ((rd_T76 l1 x5_1).f0.f4)) ∧ w'.cell? ⟨(ad443.add ((x5_1).toNat * 7)).block, (ad443.add ((x5_1).toNat * 7)).off + 5, none⟩ = some (.int .i64 ((rd_T76 l1 x5_1).f0.f5)) ∧ w'.cell? ⟨(ad443.add ((x5_1).toNat * 7)).block, (ad443.add ((x5_1).toNat * 7)).off + 6, none⟩ = some (.int .i64 ((rd_T76 l1 x5_1).f1))) (ds := []) #[false, false, false, false, false, false, false, false, false, false] k_ rfl rfl ⟨(cl HB hw442_0), (cl HB hw442_1), (cl HB hw442_2), (cl HB hw442_3), (cl HB hw442_4), (cl HB hw442_5), (cl HB hw442_6), (cl HB hw443_0), (cl HB hw443_1), (cl HB hw443_2), (cl HB hw443_3), (cl HB hw443_4), (cl HB hw443_5), (cl HB hw443_6)⟩ (fun hHeld => ?_); refine with_tabW laws_eqStatedS.tab6 laws_eqStatedS.bits6 (fun HT_ HW_ => ?_)
        generalize wr.drew = w9 at HB hx442_0 hx442_1 hx442_2 hx442_3 hx442_4 hx442_5 hx442_6 hx443_0 hx443_1 hx443_2 hx443_3 hx443_4 hx443_5 hx443_6 hHeld ⊢
        refine pu 0 17 ?_; refine pu 1 18 ?_; refine pu 2 19 ?_; refine pu 4 21 ?_; refine pu 5 22 ?_; refine pu 6 23 ?_; refine ta 3 20 ?_; refine ta 7 24 ?_
        refine on 8 (some 25) (fun K hK => ?_)
        refine goes_ Try.func54 k_ rfl #[.agg #[.int .i64 ((rd_T76 l0 x5_1).f0.f0), .int .i64 ((rd_T76 l0 x5_1).f0.f1), .int .i64 ((rd_T76 l0 x5_1).f0.f2), .int .i64 ((rd_T76 l0 x5_1).f0.f3), .int .i64 ((rd_T76 l0 x5_1).f0.f4), .int .i64 ((rd_T76 l0 x5_1).f0.f5), .int .i64 ((rd_T76 l0 x5_1).f1)], .agg #[.int .i64 ((rd_T76 l1 x5_1).f0.f0), .int .i64 ((rd_T76 l1 x5_1).f0.f1), .int .i64 ((rd_T76 l1 x5_1).f0.f2), .int .i64 ((rd_T76 l1 x5_1).f0.f3), .int .i64 ((rd_T76 l1 x5_1).f0.f4), .int .i64 ((rd_T76 l1 x5_1).f0.f5), .int .i64 ((rd_T76 l1 x5_1).f1)]] (by rfl) rfl rfl m_ ?_
        with_reducible refine (laws_eqStated.calls ((rd_T76 l0 x5_1).f0.f0) ((rd_T76 l0 x5_1).f0.f1) ((rd_T76 l0 x5_1).f0.f2) ((rd_T76 l0 x5_1).f0.f3) ((rd_T76 l0 x5_1).f0.f4) ((rd_T76 l0 x5_1).f0.f5) ((rd_T76 l0 x5_1).f1) ((rd_T76 l1 x5_1).f0.f0) ((rd_T76 l1 x5_1).f0.f1) ((rd_T76 l1 x5_1).f0.f2) ((rd_T76 l1 x5_1).f0.f3) ((rd_T76 l1 x5_1).f0.f4) ((rd_T76 l1 x5_1).f0.f5) ((rd_T76 l1 x5_1).f1) true _ A7.out).mono ?_
        rintro e w10 ⟨rfl, hb⟩
        refine ⟨_, rfl, ?_⟩
        replace HB := Aside0.mk (below_step h_ hb)
        (try clear hb)
        (try clear hb2)
        (try clear hk)
        (try clear hi)
        refine hK.out _ _ ⟨(cl HB hw442_0), (cl HB hw442_1), (cl HB hw442_2), (cl HB hw442_3), (cl HB hw442_4), (cl HB hw442_5), (cl HB hw442_6), (cl HB hw443_0), (cl HB hw443_1), (cl HB hw443_2), (cl HB hw443_3), (cl HB hw443_4), (cl HB hw443_5), (cl HB hw443_6)⟩ (fun hHeld => ?_)
        clear hK K; refine no 25 ?_; refine pu 9 26 ?_
        refine dn ?_
        try go_wp2
        go_roundg k1
        case measure => have := HK1.out; omega
        case rel => exact ⟨(wrap64 (x5_1 + 1)), r_, H', ⟨by have := HK1.out; omega⟩, ⟨h_⟩⟩
       ·replace c8 := Bool.eq_false_iff.mpr c8
        subst c8
        replace H := iF H
        obtain rfl := Option.some.inj H
        try go_wp2
        replace HB := Aside0.mk (below_drew1 HB.out)
        have p442 : 0 ≤ (x5_1 : Int) := of_decide_eq_true s_
        have q442 : x5_1 < (l0.length : Int) := of_decide_eq_true s_
        obtain ⟨ad442, e442, hx442_0, hx442_1, hx442_2, hx442_3, hx442_4, hx442_5, hx442_6⟩ := at_T76 HR0.out x5_1 p442 q442
        have hw442_6 := hx442_6; have hw442_5 := hx442_5; have hw442_4 := hx442_4; have hw442_3 := hx442_3; have hw442_2 := hx442_2; have hw442_1 := hx442_1; have hw442_0 := hx442_0
        cases e442
        replace hx442_0 := cl HB hx442_0; replace hx442_1 := cl HB hx442_1; replace hx442_2 := cl HB hx442_2; replace hx442_3 := cl HB hx442_3; replace hx442_4 := cl HB hx442_4; replace hx442_5 := cl HB hx442_5; replace hx442_6 := cl HB hx442_6
        replace p442 := eq_true p442
        replace q442 := eq_true q442
        have p443 : 0 ≤ (x5_1 : Int) := of_decide_eq_true s_
        have q443 : x5_1 < (l1.length : Int) := of_decide_eq_true s_
        obtain ⟨ad443, e443, hx443_0, hx443_1, hx443_2, hx443_3, hx443_4, hx443_5, hx443_6⟩ := at_T76 HR1.out x5_1 p443 q443
        have hw443_6 := hx443_6; have hw443_5 := hx443_5; have hw443_4 := hx443_4; have hw443_3 := hx443_3; have hw443_2 := hx443_2; have hw443_1 := hx443_1; have hw443_0 := hx443_0
        cases e443
        replace hx443_0 := cl HB hx443_0; replace hx443_1 := cl HB hx443_1; replace hx443_2 := cl HB hx443_2; replace hx443_3 := cl HB hx443_3; replace hx443_4 := cl HB hx443_4; replace hx443_5 := cl HB hx443_5; replace hx443_6 := cl HB hx443_6
        replace p443 := eq_true p443
        replace q443 := eq_true q443
        refine start_ (n := 10) (S := fun w' => w'.cell? (ad442.add ((x5_1).toNat * 7)) = some (.int .i64 ((rd_T76 l0 x5_1).f0.f0)) ∧ w'.cell? ⟨(ad442.add ((x5_1).toNat * 7)).block, (ad442.add ((x5_1).toNat * 7)).off + 1, none⟩ = some (.int .i64 ((rd_T76 l0 x5_1).f0.f1)) ∧ w'.cell? ⟨(ad442.add ((x5_1).toNat * 7)).block, (ad442.add ((x5_1).toNat * 7)).off + 2, none⟩ = some (.int .i64 ((rd_T76 l0 x5_1).f0.f2)) ∧ w'.cell? ⟨(ad442.add ((x5_1).toNat * 7)).block, (ad442.add ((x5_1).toNat * 7)).off + 3, none⟩ = some (.int .i64 ((rd_T76 l0 x5_1).f0.f3)) ∧ w'.cell? ⟨(ad442.add ((x5_1).toNat * 7)).block, (ad442.add ((x5_1).toNat * 7)).off + 4, none⟩ = some (.int .i64 ((rd_T76 l0 x5_1).f0.f4)) ∧ w'.cell? ⟨(ad442.add ((x5_1).toNat * 7)).block, (ad442.add ((x5_1).toNat * 7)).off + 5, none⟩ = some (.int .i64 ((rd_T76 l0 x5_1).f0.f5)) ∧ w'.cell? ⟨(ad442.add ((x5_1).toNat * 7)).block, (ad442.add ((x5_1).toNat * 7)).off + 6, none⟩ = some (.int .i64 ((rd_T76 l0 x5_1).f1)) ∧ w'.cell? (ad443.add ((x5_1).toNat * 7)) = some (.int .i64 ((rd_T76 l1 x5_1).f0.f0)) ∧ w'.cell? ⟨(ad443.add ((x5_1).toNat * 7)).block, (ad443.add ((x5_1).toNat * 7)).off + 1, none⟩ = some (.int .i64 ((rd_T76 l1 x5_1).f0.f1)) ∧ w'.cell? ⟨(ad443.add ((x5_1).toNat * 7)).block, (ad443.add ((x5_1).toNat * 7)).off + 2, none⟩ = some (.int .i64 ((rd_T76 l1 x5_1).f0.f2)) ∧ w'.cell? ⟨(ad443.add ((x5_1).toNat * 7)).block, (ad443.add ((x5_1).toNat * 7)).off + 3, none⟩ = some (.int .i64 ((rd_T76 l1 x5_1).f0.f3)) ∧ w'.cell? ⟨(ad443.add ((x5_1).toNat * 7)).block, (ad443.add ((x5_1).toNat * 7)).off + 4, none⟩ = some (.int .i64 ((rd_T76 l1 x5_1).f0.f4)) ∧ w'.cell? ⟨(ad443.add ((x5_1).toNat * 7)).block, (ad443.add ((x5_1).toNat * 7)).off + 5, none⟩ = some (.int .i64 ((rd_T76 l1 x5_1).f0.f5)) ∧ w'.cell? ⟨(ad443.add ((x5_1).toNat * 7)).block, (ad443.add ((x5_1).toNat * 7)).off + 6, none⟩ = some (.int .i64 ((rd_T76 l1 x5_1).f1))) (ds := []) #[false, false, false, false, false, false, false, false, false, false] k_ rfl rfl ⟨(cl HB hw442_0), (cl HB hw442_1), (cl HB hw442_2), (cl HB hw442_3), (cl HB hw442_4), (cl HB hw442_5), (cl HB hw442_6), (cl HB hw443_0), (cl HB hw443_1), (cl HB hw443_2), (cl HB hw443_3), (cl HB hw443_4), (cl HB hw443_5), (cl HB hw443_6)⟩ (fun hHeld => ?_); refine with_tabW laws_eqStatedS.tab6 laws_eqStatedS.bits6 (fun HT_ HW_ => ?_)
        generalize wr.drew = w11 at HB hx442_0 hx442_1 hx442_2 hx442_3 hx442_4 hx442_5 hx442_6 hx443_0 hx443_1 hx443_2 hx443_3 hx443_4 hx443_5 hx443_6 hHeld ⊢
        refine pu 0 17 ?_; refine pu 1 18 ?_; refine pu 2 19 ?_; refine pu 4 21 ?_; refine pu 5 22 ?_; refine pu 6 23 ?_; refine ta 3 20 ?_; refine ta 7 24 ?_
        refine on 8 (some 25) (fun K hK => ?_)
        refine goes_ Try.func54 k_ rfl #[.agg #[.int .i64 ((rd_T76 l0 x5_1).f0.f0), .int .i64 ((rd_T76 l0 x5_1).f0.f1), .int .i64 ((rd_T76 l0 x5_1).f0.f2), .int .i64 ((rd_T76 l0 x5_1).f0.f3), .int .i64 ((rd_T76 l0 x5_1).f0.f4), .int .i64 ((rd_T76 l0 x5_1).f0.f5), .int .i64 ((rd_T76 l0 x5_1).f1)], .agg #[.int .i64 ((rd_T76 l1 x5_1).f0.f0), .int .i64 ((rd_T76 l1 x5_1).f0.f1), .int .i64 ((rd_T76 l1 x5_1).f0.f2), .int .i64 ((rd_T76 l1 x5_1).f0.f3), .int .i64 ((rd_T76 l1 x5_1).f0.f4), .int .i64 ((rd_T76 l1 x5_1).f0.f5), .int .i64 ((rd_T76 l1 x5_1).f1)]] (by rfl) rfl rfl m_ ?_
        with_reducible refine (laws_eqStated.calls ((rd_T76 l0 x5_1).f0.f0) ((rd_T76 l0 x5_1).f0.f1) ((rd_T76 l0 x5_1).f0.f2) ((rd_T76 l0 x5_1).f0.f3) ((rd_T76 l0 x5_1).f0.f4) ((rd_T76 l0 x5_1).f0.f5) ((rd_T76 l0 x5_1).f1) ((rd_T76 l1 x5_1).f0.f0) ((rd_T76 l1 x5_1).f0.f1) ((rd_T76 l1 x5_1).f0.f2) ((rd_T76 l1 x5_1).f0.f3) ((rd_T76 l1 x5_1).f0.f4) ((rd_T76 l1 x5_1).f0.f5) ((rd_T76 l1 x5_1).f1) false _ A7.out).mono ?_
        rintro e w12 ⟨rfl, hb⟩
        refine ⟨_, rfl, ?_⟩
        replace HB := Aside0.mk (below_step h_ hb)
        (try clear hb)
        (try clear hb2)
        (try clear hk)
        (try clear hi)
        refine hK.out _ _ ⟨(cl HB hw442_0), (cl HB hw442_1), (cl HB hw442_2), (cl HB hw442_3), (cl HB hw442_4), (cl HB hw442_5), (cl HB hw442_6), (cl HB hw443_0), (cl HB hw443_1), (cl HB hw443_2), (cl HB hw443_3), (cl HB hw443_4), (cl HB hw443_5), (cl HB hw443_6)⟩ (fun hHeld => ?_)
        clear hK K; refine no 25 ?_; refine pu 9 26 ?_
        refine dn ?_
        try go_wp2
        go_ret
        exact ⟨e_, h_⟩
      ·rw [if_neg c6] at H
       exact absurd H (by simp)
     ·rw [if_neg c5] at H
      exact absurd H (by simp)
    ·rw [if_neg c4] at H
     have c4b0 : decide (x5_1 < (l0.length : Int)) = false := decide_eq_false c4
     clear c4
     obtain rfl := Option.some.inj H
     go_wp2
     go_ret
     exact ⟨e_, h_⟩
 ·rw [if_neg c3] at H
  have c3b0 : ((l0.length : Int) == (l1.length : Int)) = false := beq_eq_false_iff_ne.mpr c3
  have c3b1 : ((l0.length : Int) != (l1.length : Int)) = true := bne_iff_ne.mpr c3
  have c3b2 : (l0.length == l1.length) = false := by first | simpa using c3 | (simp at c3 ⊢; omega)
  obtain rfl := Option.some.inj H
  go_enter Try.func25, Try.ntmps25
  go_wp2
  go_ret
  exact ⟨e_, h_⟩

/-! ### laws_markIntS: function 70 -/
def laws_markIntS.l0 : Nat → List Int → Int → Int → Option (Int × List Int)
 | 0, _, _, _ => none
 | k + 1, x0, x1, x5 => if x5 < (x0.length : Int) then (if 0 ≤ x5 then (laws_markIntS.l0 k (x0.set (x5 : Int).toNat x1) (wrap64 (x1 + 1)) (wrap64 (x5 + 1))) else (none)) else (some (x1, x0))
def laws_markIntS.f (k : Nat) (l0 : List Int) (a1 : Int) : Option (Int × List Int) := laws_markIntS.l0 k l0 a1 0
set_option maxHeartbeats 8000000 in
set_option maxRecDepth 100000 in
theorem laws_markIntS.calls (k : Nat) (P0_ : Nat → Prop) (u9000_ : Value) (l0 : List Int) (a1 : Int) (r1 : Int) (r2 : List Int) (w0 w : World) (hB : Below w0.heap.size w0 w) (ho0 : Kd.R (Kd.int .i64) 3 w w0.heap.size P0_ u9000_ l0) (h : laws_markIntS.f k l0 a1 = some (r1, r2)) :
  Calls Try.prog 70 #[u9000_, .int .i64 a1] w fun e w' => e = .returned (.int .i64 r1) ∧ Kd.R (Kd.int .i64) 3 w' w0.heap.size (fun k_ => (P0_ k_ ∨ w.heap.size ≤ k_)) u9000_ r2 ∧ Below w0.heap.size w0 w' ∧ Kept w w' (fun k_ => P0_ k_) := by
 have HO0 := Aside0.mk (show Kd.R (Kd.int .i64) 3 w w0.heap.size (fun k_ => (P0_ k_ ∨ w.heap.size ≤ k_)) u9000_ l0 from Kd.R_mono ho0 (fun k_ hk => (.inl hk)))
 have HK := Aside0.mk (Kept.refl w (fun k_ => P0_ k_))
 have HW0 := Aside0.mk hB.size
 have HB := Aside0.mk hB
 clear hB
 have H : (laws_markIntS.l0 k l0 a1 0) = some (r1, r2) := h
 clear h
 have H' := Aside0.mk H
 clear H
 go_enter Try.func70, Try.ntmps70
 go_wp2
 go_loopg [1, 5] k (fun kq v1 v5 w' => ∃ (x0_1 : List Int) (x1_1 : Int) (x5_1 : Int), v1 = .int .i64 x1_1 ∧ v5 = .int .i64 x5_1 ∧ Aside0 (laws_markIntS.l0 kq x0_1 x1_1 x5_1 = some (r1, r2)) ∧ Aside0 (kq ≤ k) ∧ Aside0 (Kd.R (Kd.int .i64) 3 w' w0.heap.size (fun k_ => (P0_ k_ ∨ w.heap.size ≤ k_)) u9000_ x0_1) ∧ Aside0 (Kept w w' (fun k_ => P0_ k_)) ∧ Aside0 (Below w0.heap.size w0 w'))
 case atStart => exact ⟨(l0), (a1), (0), r_, r_, H', ⟨Nat.le_refl _⟩, ⟨by (with_reducible repeat (first | apply Kd.R_alloc | apply Kd.R_drewN | apply Kd.R_drew)); exact HO0.out⟩, ⟨by repeat (first | (with_reducible first | exact HK.out | apply Kept.alloc | apply Kept.drewN | apply Kept.drew) | exact HK.out)⟩, ⟨h_⟩⟩
 case round =>
  clear H'; try clear p2
  obtain ⟨x0_1, x1_1, x5_1, rfl, rfl, HA, HK1, HO_0, HK, HB⟩ := hrel
  cases gk with
  | zero => exact absurd HA.out (by simp [laws_markIntS.l0])
  | succ k1 =>
   have H := HA.out
   clear HA
   simp only [laws_markIntS.l0] at H
   by_cases c3 : x5_1 < (x0_1.length : Int)
   ·rw [if_pos c3] at H
    have c3b0 : decide (x5_1 < (x0_1.length : Int)) = true := decide_eq_true c3
    clear c3
    by_cases c4 : 0 ≤ x5_1
    ·rw [if_pos c4] at H
     have c4b0 : decide (0 ≤ x5_1) = true := decide_eq_true c4
     clear c4
     obtain ⟨y445, hy445⟩ : ∃ y_ : List Int, y_ = (x0_1.set (x5_1 : Int).toNat x1_1) := ⟨_, rfl⟩
     replace H : (laws_markIntS.l0 k1 y445 (wrap64 (x1_1 + 1)) (wrap64 (x5_1 + 1))) = some (r1, r2) := by first | (rw [hy445]; with_reducible exact H) | (have H2_ := (Option.bind_some _ _).symm.trans H; rw [hy445]; with_reducible exact H2_) | (have H2_ := (Option.bind_some _ _).symm.trans H; with_reducible exact H2_) | with_reducible exact H | (rw [hy445]; exact H) | exact H
     have Ny445 := Aside0.mk hy445
     clear hy445
     have H' := Aside0.mk H
     clear H
     obtain ⟨Ao6, co6, eo6⟩ := Kd.R_slice HO_0.out
     subst eo6
     have p5 : 0 ≤ (x5_1 : Int) := of_decide_eq_true s_
     have q5 : (x5_1 : Int) < ((x0_1.length : Int) : Int) := of_decide_eq_true s_
     obtain ⟨go5, co5, eo5, gb5, gl5, cl5, HG5⟩ := Kd.R_form HO_0.out (by omega)
     (first | cases eo5 | (injection eo5 with ea_ en_ ec_; (first | subst ea_ | (injection ea_ with ea_; subst ea_)); subst ec_; clear en_))
     have GB5 := Aside0.mk gb5
     have GG5 := Aside0.mk HG5
     clear gb5 gl5 HG5
     have HMgo5 := Aside0.mk (show (P0_ go5 ∨ w.heap.size ≤ go5) from (HO_0.out.1 _ rfl))
     obtain ⟨hx5_0, hf5_0⟩ := Kd.R_celln 0 HO_0.out (x5_1 : Int) p5 q5
     replace p5 := eq_true p5
     replace q5 := eq_true q5
     have HP7 := Kd.R_putg HO_0.out (x5_1 : Int) x1_1
     go_wp2_with (first | ((with_reducible refine gate_store (t := 3) (p := 15) rfl ?_); refine store_event (t := 3) (p := 15) (v := ?vo_w8) (w1 := (wr.setCell ⟨go5, (x5_1 : Int).toNat, none⟩ (.int .i64 x1_1))) ?hg ?ho ?hn ?hr ?_; (case ho => rfl); (case hg => rfl); (case hn => rfl); (case hr => first | (go_simp; done) | (go_simp; rfl)); intro w8 hw; have hg : wr.grownBy w8 (some go5) := (by rw [hw]; exact HP7.2); have hp_ : Kd.R (Kd.int .i64) 3 w8 w0.heap.size (fun k_ => (P0_ k_ ∨ w.heap.size ≤ k_)) (.slice (some ⟨go5, 0, none⟩) x0_1.length co6) y445 := (by rw [hw, Ny445.out]; exact HP7.1); clear HP7; replace HB := Aside0.mk ((by rw [hw]; exact below_set (HB.out) GB5.out : Below w0.heap.size w0 w8)); replace HK := Aside0.mk (Kept.of_grown (S := (fun k_ => P0_ k_)) hg (by repeat (first | (with_reducible first | exact HK.out | apply Kept.alloc | apply Kept.drewN | apply Kept.drew) | exact HK.out)) (fun k_ e_ => (HO_0.out.1 k_ e_))); replace HO_0 := Aside0.mk (hp_); clear hg hw hp_))
     go_roundg k1
     case measure => have := HK1.out; omega
     case rel => exact ⟨(y445), (wrap64 (x1_1 + 1)), (wrap64 (x5_1 + 1)), r_, r_, H', ⟨by have := HK1.out; omega⟩, ⟨by (with_reducible repeat (first | apply Kd.R_alloc | apply Kd.R_drewN | apply Kd.R_drew)); exact HO_0.out⟩, ⟨by repeat (first | (with_reducible first | exact HK.out | apply Kept.alloc | apply Kept.drewN | apply Kept.drew) | exact HK.out)⟩, ⟨h_⟩⟩
    ·rw [if_neg c4] at H
     exact absurd H (by simp)
   ·rw [if_neg c3] at H
    have c3b0 : decide (x5_1 < (x0_1.length : Int)) = false := decide_eq_false c3
    clear c3
    simp only [Option.some.injEq, Prod.mk.injEq] at H
    obtain ⟨rfl, rfl⟩ := H
    obtain ⟨Ao9, co9, eo9⟩ := Kd.R_slice HO_0.out
    subst eo9
    go_wp2
    go_ret
    exact ⟨e_, by (with_reducible repeat (first | apply Kd.R_alloc | apply Kd.R_drewN | apply Kd.R_drew)); exact HO_0.out, h_, by repeat (first | (with_reducible first | exact HK.out | apply Kept.alloc | apply Kept.drewN | apply Kept.drew) | exact HK.out)⟩

/-! ### laws_markIssuerS: function 26 -/
theorem laws_markIssuerS.set_at {α : Type} (a b : List α) (x y : α) : (a ++ x :: b).set a.length y = a ++ y :: b := by
  rw [List.set_append_right _ _ (Nat.le_refl _), Nat.sub_self, List.set_cons_zero]
theorem laws_markIssuerS.get_at {α : Type} (a b : List α) (x z : α) : (a ++ x :: b).getD a.length z = x := by
  rw [List.getD_eq_getElem?_getD, List.getElem?_append_right (Nat.le_refl _), Nat.sub_self]
  rfl
/-- One number is written: its cell, and what stands behind it. -/
theorem laws_markIssuerS.put0 {W : World} {base : Nat} {ok : Nat → Prop} {g n c : Nat} {a b : List S48} {x : S48} (HS : Kd.S k48 48 W base ok (.slice (some ⟨g, 0, none⟩) n c) (a ++ x :: b)) (i : Int) (hi : i = (a.length : Int)) :
    W.cell? ⟨g, i.toNat * 3, none⟩ = some (.int .i64 x.f0) ∧ W.frozen? ⟨g, i.toNat * 3, none⟩ = false ∧ ∀ v, Kd.S k48 48 (W.setCell ⟨g, i.toNat * 3, none⟩ (.int .i64 v)) base ok (.slice (some ⟨g, 0, none⟩) n c) (a ++ ⟨v, x.f1, x.f2⟩ :: b) := by
  subst hi
  have hn := (Kd.S_reads' HS).1
  have hlt : (a.length : Int) < (n : Int) := by rw [hn, List.length_append, List.length_cons]; omega
  obtain ⟨oki, ce, hcl, hM, hcc, hfr, hoki, hH⟩ := Kd.S_elem HS z48 (a.length : Int) (by omega) hlt
  rw [Int.toNat_natCast, laws_markIssuerS.get_at] at hM
  obtain ⟨v1, rfl, g1⟩ := k48_openM hM
  have hH' : Kd.H k48 48 W base (fun k => ok k ∧ ¬ (fun _ => False) k) (.slice (some ⟨g, 0, none⟩) n c) (a ++ x :: b) (a.length : Int) oki [.int .i64 x.f0, v1, .int .i64 x.f2] := Kd.H_mono hH (fun k hk => ⟨hk, fun h => h⟩)
  refine ⟨hcc 0 _ rfl, hfr 0, fun v => ?_⟩
  have := (Kd.S_seg hH' (by omega) hlt (seg := [.int .i64 v]) (j := 0) (show 1 ≤ 3 from by decide) (x' := ⟨v, x.f1, x.f2⟩) (k48_mkM W base oki ⟨v, x.f1, x.f2⟩ g1) (fun _ hk => .inl hk) (fun _ hk => hk.elim)).1
  rw [Int.toNat_natCast, laws_markIssuerS.set_at] at this
  exact this
/-- One number is written: its cell, and what stands behind it. -/
theorem laws_markIssuerS.put2 {W : World} {base : Nat} {ok : Nat → Prop} {g n c : Nat} {a b : List S48} {x : S48} (HS : Kd.S k48 48 W base ok (.slice (some ⟨g, 0, none⟩) n c) (a ++ x :: b)) (i : Int) (hi : i = (a.length : Int)) :
    W.cell? ⟨g, i.toNat * 3 + 2, none⟩ = some (.int .i64 x.f2) ∧ W.frozen? ⟨g, i.toNat * 3 + 2, none⟩ = false ∧ ∀ v, Kd.S k48 48 (W.setCell ⟨g, i.toNat * 3 + 2, none⟩ (.int .i64 v)) base ok (.slice (some ⟨g, 0, none⟩) n c) (a ++ ⟨x.f0, x.f1, v⟩ :: b) := by
  subst hi
  have hn := (Kd.S_reads' HS).1
  have hlt : (a.length : Int) < (n : Int) := by rw [hn, List.length_append, List.length_cons]; omega
  obtain ⟨oki, ce, hcl, hM, hcc, hfr, hoki, hH⟩ := Kd.S_elem HS z48 (a.length : Int) (by omega) hlt
  rw [Int.toNat_natCast, laws_markIssuerS.get_at] at hM
  obtain ⟨v1, rfl, g1⟩ := k48_openM hM
  have hH' : Kd.H k48 48 W base (fun k => ok k ∧ ¬ (fun _ => False) k) (.slice (some ⟨g, 0, none⟩) n c) (a ++ x :: b) (a.length : Int) oki [.int .i64 x.f0, v1, .int .i64 x.f2] := Kd.H_mono hH (fun k hk => ⟨hk, fun h => h⟩)
  refine ⟨hcc 2 _ rfl, hfr 2, fun v => ?_⟩
  have := (Kd.S_seg hH' (by omega) hlt (seg := [.int .i64 v]) (j := 2) (show 3 ≤ 3 from by decide) (x' := ⟨x.f0, x.f1, v⟩) (k48_mkM W base oki ⟨x.f0, x.f1, v⟩ g1) (fun _ hk => .inl hk) (fun _ hk => hk.elim)).1
  rw [Int.toNat_natCast, laws_markIssuerS.set_at] at this
  exact this
/-- An element's row, lent. -/
theorem laws_markIssuerS.lend {W : World} {base : Nat} {ok : Nat → Prop} {g n c : Nat} {a b : List S48} {x : S48} (HS : Kd.S k48 48 W base ok (.slice (some ⟨g, 0, none⟩) n c) (a ++ x :: b)) (i : Int) (hi : i = (a.length : Int)) :
    ∃ (oki : Nat → Prop) (A3 : Option Addr) (c3 : Nat), W.cell? ⟨g, i.toNat * 3 + 1, none⟩ = some (.slice A3 x.f1.length c3) ∧ (Kd.int .i64).R 3 W base oki (.slice A3 x.f1.length c3) x.f1 ∧ (∀ k, oki k → ok k) ∧
      ∀ (W1 : World) (l : List Int), Kept W W1 oki → (Kd.int .i64).R 3 W1 base oki (.slice A3 x.f1.length c3) l → Kd.S k48 48 W1 base ok (.slice (some ⟨g, 0, none⟩) n c) (a ++ ⟨x.f0, l, x.f2⟩ :: b) := by
  subst hi
  have hn := (Kd.S_reads' HS).1
  have hlt : (a.length : Int) < (n : Int) := by rw [hn, List.length_append, List.length_cons]; omega
  obtain ⟨oki, ce, hcl, hM, hcc, hfr, hoki, hH⟩ := Kd.S_elem HS z48 (a.length : Int) (by omega) hlt
  rw [Int.toNat_natCast, laws_markIssuerS.get_at] at hM
  obtain ⟨v3, rfl, g3⟩ := k48_openM hM
  obtain ⟨A3, c3, rfl⟩ := Kd.R_slice g3
  refine ⟨oki, A3, c3, hcc 1 _ rfl, g3, fun k hk => (hoki k hk).1, fun W1 l hk hl => ?_⟩
  have := Kd.H_back (Kd.H_kept hH hk (fun k _ hn => hn)) (k48_mkM W1 base oki ⟨x.f0, l, x.f2⟩ hl) (fun _ hk => hk)
  rw [Int.toNat_natCast, laws_markIssuerS.set_at] at this
  exact this
def laws_markIssuerS.g (k : Nat) : List S48 → Int → Option (Int × List S48)
  | [], kc => some (kc, [])
  | x :: l, kc => (laws_markIntS.f k x.f1 (wrap64 (kc + 1))).bind fun r => (laws_markIssuerS.g k l (wrap64 (r.1 + 1))).bind fun q => some (q.1, ⟨kc, r.2, r.1⟩ :: q.2)
def laws_markIssuerS.f (k : Nat) (l0 : List S48) (a1 : Int) : Option (Int × List S48) := laws_markIssuerS.g k l0 a1
set_option maxHeartbeats 8000000 in
set_option maxRecDepth 100000 in
theorem laws_markIssuerS.calls (k : Nat) (P0_ : Nat → Prop) (u9000_ : Value) (l0 : List (S48)) (a1 : Int) (r1 : Int) (r2 : List (S48)) (w0 w : World) (hB : Below w0.heap.size w0 w) (ho0 : Kd.S k48 48 w w0.heap.size P0_ u9000_ l0) (h : laws_markIssuerS.f k l0 a1 = some (r1, r2)) :
    Calls Try.prog 26 #[u9000_, .int .i64 a1] w fun e w' => e = .returned (.int .i64 r1) ∧ Kd.S k48 48 w' w0.heap.size P0_ u9000_ r2 ∧ Below w0.heap.size w0 w' ∧ Kept w w' (fun k_ => P0_ k_) := by
  have hu := Try.underlying48
  obtain ⟨A, c, rfl⟩ := Kd.S_slice ho0
  have HR := Aside0.mk h
  have HMX := Aside0.mk (Kd.C_max (Kd.S_reads' ho0).2.2)
  have HO0 := Aside0.mk ho0
  have HB0 := Aside0.mk hB
  clear ho0 hB h
  obtain ⟨N, hN⟩ : ∃ N, N = l0.length := ⟨_, rfl⟩
  have HNN := Aside0.mk hN
  go_enter Try.func26, Try.ntmps26
  go_wp2
  go_loopg [1, 5] N (fun kq v1 v5 w' => ∃ (z : Int) (kc : Int) (a b : List (S48)), v1 = .int .i64 kc ∧ v5 = .int .i64 z ∧ Aside0 (z = (a.length : Int)) ∧ Aside0 (a.length + b.length = l0.length) ∧ Aside0 (b.length ≤ kq) ∧ Aside0 (∃ q, laws_markIssuerS.g k b kc = some q ∧ r1 = q.1 ∧ r2 = a ++ q.2) ∧ Aside0 (Kd.S k48 48 w' w0.heap.size P0_ (.slice A l0.length c) (a ++ b)) ∧ Aside0 (Below w0.heap.size w0 w') ∧ Aside0 (Kept w w' (fun k_ => P0_ k_)))
  case atStart => exact ⟨0, a1, [], l0, rfl, rfl, ⟨rfl⟩, ⟨by simp⟩, ⟨by omega⟩, ⟨by exact ⟨(r1, r2), HR.out, rfl, rfl⟩⟩, HO0, HB0, ⟨Kept.refl _ _⟩⟩
  case round =>
    obtain ⟨z, kc, a, b, rfl, rfl, HZ, HL, HM, HG, HO, HB, HK⟩ := hrel
    have hz0 : (0 ≤ z) = True := eq_true (by rw [HZ.out]; omega)
    cases b with
    | nil =>
      have hz1 : decide (z < (l0.length : Int)) = false := decide_eq_false (by have := HL.out; rw [HZ.out]; simp at this; omega)
      go_wp2
      go_ret
      obtain ⟨q, hq, h1, h2⟩ := HG.out
      obtain rfl := Option.some.inj hq
      subst h1
      subst h2
      exact ⟨rfl, HO.out, HB.out, HK.out⟩
    | cons x b =>
      have hlt : z < (l0.length : Int) := by have := HL.out; rw [HZ.out]; simp at this; omega
      have hz1 : decide (z < (l0.length : Int)) = true := decide_eq_true hlt
      have hz2 : (z < (l0.length : Int)) = True := eq_true hlt
      clear hlt
      obtain ⟨g, cg, eg, gb, gl, gg⟩ := Kd.S_form HO.out (by simp; omega)
      injection eg with ea en ec
      subst ea
      subst ec
      clear en gb gl gg
      have HMg : Aside0 (P0_ g) := ⟨(Kd.S_R HO.out).1 g (by simp [Value.ownBlock])⟩
      have HW0 : Aside0 (w0.heap.size ≤ g) := ⟨Kd.S_base HO.out g (by simp [Value.ownBlock])⟩
      obtain ⟨rr, hr1, hr2⟩ : ∃ rr, laws_markIntS.f k x.f1 (wrap64 (kc + 1)) = some rr ∧ ∃ q, laws_markIssuerS.g k b (wrap64 (rr.1 + 1)) = some q ∧ r1 = q.1 ∧ r2 = a ++ ⟨kc, rr.2, rr.1⟩ :: q.2 := by
        obtain ⟨q, hq, h1, h2⟩ := HG.out
        simp only [laws_markIssuerS.g] at hq
        obtain ⟨rr, hrr, hq⟩ := Option.bind_eq_some_iff.1 hq
        obtain ⟨q2, hq2, hq⟩ := Option.bind_eq_some_iff.1 hq
        obtain rfl := Option.some.inj hq
        exact ⟨rr, hrr, q2, hq2, h1, h2⟩
      obtain ⟨rk, rl⟩ := rr
      have HR1 := Aside0.mk hr1
      have HR2 := Aside0.mk hr2
      clear hr1 hr2 HG
      obtain ⟨hx0, hf0, hq0⟩ := laws_markIssuerS.put0 HO.out z HZ.out
      have HQ0 := Aside0.mk (hq0 (kc))
      clear hq0
      go_wp2_with (first
        | ((with_reducible refine gate_store (t := 3) (p := 16) rfl ?_); refine store_event (t := 3) (p := 16) (v := ?vo16) (w1 := (wr.setCell ⟨g, z.toNat * 3, none⟩ (.int .i64 (kc)))) ?hg ?ho ?hn ?hr ?_; (case ho => rfl); (case hg => rfl); (case hn => rfl); (case hr => first | (go_simp; done) | (go_simp; rfl))
           intro w1 hw
           have HO1 := Aside0.mk (show Kd.S k48 48 w1 _ _ _ _ from by rw [hw]; exact HQ0.out)
           have HB1 := Aside0.mk (show Below w0.heap.size w0 w1 from by rw [hw]; exact below_set HB.out HW0.out)
           have HK1 := Aside0.mk (show Kept w w1 (fun k_ => P0_ k_) from by rw [hw]; exact HK.out.setCell (.inl HMg.out) _)
           clear hw HO HB HK HQ0 hx0 hf0
           obtain ⟨oki, A3, c3, hx1, hs3, hi3, hback⟩ := laws_markIssuerS.lend HO1.out z HZ.out
           have HS3 := Aside0.mk (show (Kd.int .i64).R 3 w1 _ oki (.slice A3 x.f1.length c3) x.f1 from hs3)
           have HI3 := Aside0.mk hi3
           have HBK := Aside0.mk hback
           clear hs3 hi3 hback)
        | (go_at_call 70; refine (laws_markIntS.calls k oki (.slice A3 x.f1.length c3) x.f1 (wrap64 (kc + 1)) rk rl w0 _ HB1.out HS3.out HR1.out).mono ?_
           rintro e w2 ⟨rfl, hs4, hb4, hk4⟩
           have hs5 : (Kd.int .i64).R 3 w2 w0.heap.size oki (.slice A3 x.f1.length c3) rl := (by obtain ⟨_, inner, ho, hr⟩ := hs4; exact ⟨HS3.out.1, inner, ho, hr⟩)
           have HO2 := Aside0.mk (HBK.out w2 _ hk4 hs5)
           have HB2 := Aside0.mk hb4
           have HK2 := Aside0.mk (Kept.then_ HK1.out hk4 (fun k hk => .inl (HI3.out k hk)))
           clear hs4 hs5 hb4 hk4 HBK HS3 HO1 HB1 HK1 hx1
           obtain ⟨hx2, hf2, hq2⟩ := laws_markIssuerS.put2 HO2.out z HZ.out
           have HQ2 := Aside0.mk (hq2 (rk))
           clear hq2)
        | ((with_reducible refine gate_store (t := 3) (p := 30) rfl ?_); refine store_event (t := 3) (p := 30) (v := ?vo30) (w1 := (w2.setCell ⟨g, z.toNat * 3 + 2, none⟩ (.int .i64 (rk)))) ?hg ?ho ?hn ?hr ?_; (case ho => rfl); (case hg => rfl); (case hn => rfl); (case hr => first | (go_simp; done) | (go_simp; rfl))
           intro w3 hw
           have HO3 := Aside0.mk (show Kd.S k48 48 w3 _ _ _ _ from by rw [hw]; exact HQ2.out)
           have HB3 := Aside0.mk (show Below w0.heap.size w0 w3 from by rw [hw]; exact below_set HB2.out HW0.out)
           have HK3 := Aside0.mk (show Kept w w3 (fun k_ => P0_ k_) from by rw [hw]; exact HK2.out.setCell (.inl HMg.out) _)
           clear hw HO2 HB2 HK2 HQ2 hx2 hf2))
      cases gk with
      | zero => exact absurd HM.out (by simp)
      | succ k1 =>
      go_roundg k1
      case measure => omega
      case rel =>
        refine ⟨z + 1, wrap64 (rk + 1), a ++ [⟨kc, rl, rk⟩], b, ?_, ?_, ⟨by rw [HZ.out]; simp⟩, ⟨by have := HL.out; simp at this ⊢; omega⟩, ⟨by have := HM.out; simp at this; omega⟩, ⟨?_⟩, ⟨?_⟩, HB3, HK3⟩
        · rfl
        · have h1 := of_eq_true hz2
          have h2 := of_eq_true hz0
          have h3 := HMX.out
          show Value.int .i64 (wrap64 (z + 1)) = .int .i64 (z + 1)
          rw [show wrap64 (z + 1) = z + 1 by unfold wrap64; omega]
        · obtain ⟨q, hq, h1, h2⟩ := HR2.out
          exact ⟨q, hq, h1, by rw [h2]; simp⟩
        · rw [List.append_assoc]
          exact HO3.out

/-! ### laws_markFactS: function 27 -/
def laws_markFactS.l0 : Nat → List (S55) → Int → Int → Option (Int × (List (S55)))
 | 0, _, _, _ => none
 | k + 1, x0, x1, x5 => if x5 < (x0.length : Int) then (if 0 ≤ x5 then ((some (x0.set (x5 : Int).toNat (⟨x1, (rd_T55 x0 x5).f1, (rd_T55 x0 x5).f2, (rd_T55 x0 x5).f3, (rd_T55 x0 x5).f4, (rd_T55 x0 x5).f5⟩ : S55) : List (S55))).bind fun y446 => ((some (y446.set (x5 : Int).toNat (⟨(rd_T55 y446 x5).f0, wrap64 (x1 + 1), (rd_T55 y446 x5).f2, (rd_T55 y446 x5).f3, (rd_T55 y446 x5).f4, (rd_T55 y446 x5).f5⟩ : S55) : List (S55))).bind fun y447 => ((some (y447.set (x5 : Int).toNat (⟨(rd_T55 y447 x5).f0, (rd_T55 y447 x5).f1, wrap64 ((wrap64 (x1 + 1)) + 1), (rd_T55 y447 x5).f3, (rd_T55 y447 x5).f4, (rd_T55 y447 x5).f5⟩ : S55) : List (S55))).bind fun y448 => ((some (y448.set (x5 : Int).toNat (⟨(rd_T55 y448 x5).f0, (rd_T55 y448 x5).f1, (rd_T55 y448 x5).f2, wrap64 ((wrap64 ((wrap64 (x1 + 1)) + 1)) + 1), (rd_T55 y448 x5).f4, (rd_T55 y448 x5).f5⟩ : S55) : List (S55))).bind fun y449 => ((some (y449.set (x5 : Int).toNat (⟨(rd_T55 y449 x5).f0, (rd_T55 y449 x5).f1, (rd_T55 y449 x5).f2, (rd_T55 y449 x5).f3, wrap64 ((wrap64 ((wrap64 ((wrap64 (x1 + 1)) + 1)) + 1)) + 1), (rd_T55 y449 x5).f5⟩ : S55) : List (S55))).bind fun y450 => (laws_markFactS.l0 k (y450.set (x5 : Int).toNat (⟨(rd_T55 y450 x5).f0, (rd_T55 y450 x5).f1, (rd_T55 y450 x5).f2, (rd_T55 y450 x5).f3, (rd_T55 y450 x5).f4, wrap64 ((wrap64 ((wrap64 ((wrap64 ((wrap64 (x1 + 1)) + 1)) + 1)) + 1)) + 1)⟩ : S55)) (wrap64 ((wrap64 ((wrap64 ((wrap64 ((wrap64 ((wrap64 (x1 + 1)) + 1)) + 1)) + 1)) + 1)) + 1)) (wrap64 (x5 + 1)))))))) else (none)) else (some (x1, x0))
def laws_markFactS.f (k : Nat) (l0 : List (S55)) (a1 : Int) : Option (Int × (List (S55))) := laws_markFactS.l0 k l0 a1 0
theorem z27_0 {Q : Prop} (g : Q := by have h_ : (x5_1 : Int) < ((x0_1.length : Int) : Int) := of_decide_eq_true s_; first | exact h_ | (have e_ := (Kd.R_reads' HO_0.out).1; omega) | simpa using h_) : Q := g
theorem z27_1 {Q : Prop} (g : Q := by repeat (first | (with_reducible first | exact HK.out | apply Kept.alloc | apply Kept.drewN | apply Kept.drew) | exact HK.out)) : Q := g
set_option maxHeartbeats 8000000 in
set_option maxRecDepth 100000 in
theorem laws_markFactS.calls (k : Nat) (P0_ : Nat → Prop) (u9000_ : Value) (l0 : List (S55)) (a1 : Int) (r1 : Int) (r2 : List (S55)) (w0 w : World) (hB : Below w0.heap.size w0 w) (ho0 : Kd.R k55 55 w w0.heap.size P0_ u9000_ l0) (h : laws_markFactS.f k l0 a1 = some (r1, r2)) :
  Calls Try.prog 27 #[u9000_, .int .i64 a1] w fun e w' => e = .returned (.int .i64 r1) ∧ Kd.R k55 55 w' w0.heap.size (fun k_ => (P0_ k_ ∨ w.heap.size ≤ k_)) u9000_ r2 ∧ Below w0.heap.size w0 w' ∧ Kept w w' (fun k_ => P0_ k_) := by
 have HO0 := Aside0.mk (show Kd.R k55 55 w w0.heap.size (fun k_ => (P0_ k_ ∨ w.heap.size ≤ k_)) u9000_ l0 from Kd.R_mono ho0 (fun k_ hk => (.inl hk)))
 have HK := Aside0.mk (Kept.refl w (fun k_ => P0_ k_))
 have HW0 := Aside0.mk hB.size
 have HB := Aside0.mk hB
 clear hB
 have H : (laws_markFactS.l0 k l0 a1 0) = some (r1, r2) := h
 clear h
 have H' := Aside0.mk H
 clear H
 go_enter Try.func27, Try.ntmps27
 go_wp2
 go_loopg [1, 5] k (fun kq v1 v5 w' => ∃ (x0_1 : List (S55)) (x1_1 : Int) (x5_1 : Int), v1 = .int .i64 x1_1 ∧ v5 = .int .i64 x5_1 ∧ Aside0 (laws_markFactS.l0 kq x0_1 x1_1 x5_1 = some (r1, r2)) ∧ Aside0 (kq ≤ k) ∧ Aside0 (Kd.R k55 55 w' w0.heap.size (fun k_ => (P0_ k_ ∨ w.heap.size ≤ k_)) u9000_ x0_1) ∧ Aside0 (Kept w w' (fun k_ => P0_ k_)) ∧ Aside0 (Below w0.heap.size w0 w'))
 case atStart => exact ⟨(l0), (a1), (0), r_, r_, H', ⟨Nat.le_refl _⟩, ⟨by (with_reducible repeat (first | apply Kd.R_alloc | apply Kd.R_drewN | apply Kd.R_drew)); exact HO0.out⟩, ⟨by repeat (first | (with_reducible first | exact HK.out | apply Kept.alloc | apply Kept.drewN | apply Kept.drew) | exact HK.out)⟩, ⟨h_⟩⟩
 case round =>
  clear H'; try clear c2; try clear p2
  obtain ⟨x0_1, x1_1, x5_1, rfl, rfl, HA, HK1, HO_0, HK, HB⟩ := hrel
  cases gk with
  | zero => exact absurd HA.out (by simp [laws_markFactS.l0])
  | succ k1 =>
   have H := HA.out
   clear HA
   simp only [laws_markFactS.l0] at H
   by_cases c3 : x5_1 < (x0_1.length : Int)
   ·rw [if_pos c3] at H
    have c3b0 : decide (x5_1 < (x0_1.length : Int)) = true := decide_eq_true c3
    clear c3
    by_cases c4 : 0 ≤ x5_1
    ·rw [if_pos c4] at H
     have c4b0 : decide (0 ≤ x5_1) = true := decide_eq_true c4
     clear c4
     obtain ⟨y446, hy446⟩ : ∃ y_ : List (S55), y_ = (x0_1.set (x5_1 : Int).toNat (⟨x1_1, (rd_T55 x0_1 x5_1).f1, (rd_T55 x0_1 x5_1).f2, (rd_T55 x0_1 x5_1).f3, (rd_T55 x0_1 x5_1).f4, (rd_T55 x0_1 x5_1).f5⟩ : S55)) := ⟨_, rfl⟩
     replace H : ((some (y446.set (x5_1 : Int).toNat (⟨(rd_T55 y446 x5_1).f0, wrap64 (x1_1 + 1), (rd_T55 y446 x5_1).f2, (rd_T55 y446 x5_1).f3, (rd_T55 y446 x5_1).f4, (rd_T55 y446 x5_1).f5⟩ : S55) : List (S55))).bind fun y447 => ((some (y447.set (x5_1 : Int).toNat (⟨(rd_T55 y447 x5_1).f0, (rd_T55 y447 x5_1).f1, wrap64 ((wrap64 (x1_1 + 1)) + 1), (rd_T55 y447 x5_1).f3, (rd_T55 y447 x5_1).f4, (rd_T55 y447 x5_1).f5⟩ : S55) : List (S55))).bind fun y448 => ((some (y448.set (x5_1 : Int).toNat (⟨(rd_T55 y448 x5_1).f0, (rd_T55 y448 x5_1).f1, (rd_T55 y448 x5_1).f2, wrap64 ((wrap64 ((wrap64 (x1_1 + 1)) + 1)) + 1), (rd_T55 y448 x5_1).f4, (rd_T55 y448 x5_1).f5⟩ : S55) : List (S55))).bind fun y449 => ((some (y449.set (x5_1 : Int).toNat (⟨(rd_T55 y449 x5_1).f0, (rd_T55 y449 x5_1).f1, (rd_T55 y449 x5_1).f2, (rd_T55 y449 x5_1).f3, wrap64 ((wrap64 ((wrap64 ((wrap64 (x1_1 + 1)) + 1)) + 1)) + 1), (rd_T55 y449 x5_1).f5⟩ : S55) : List (S55))).bind fun y450 => (laws_markFactS.l0 k1 (y450.set (x5_1 : Int).toNat (⟨(rd_T55 y450 x5_1).f0, (rd_T55 y450 x5_1).f1, (rd_T55 y450 x5_1).f2, (rd_T55 y450 x5_1).f3, (rd_T55 y450 x5_1).f4, wrap64 ((wrap64 ((wrap64 ((wrap64 ((wrap64 (x1_1 + 1)) + 1)) + 1)) + 1)) + 1)⟩ : S55)) (wrap64 ((wrap64 ((wrap64 ((wrap64 ((wrap64 ((wrap64 (x1_1 + 1)) + 1)) + 1)) + 1)) + 1)) + 1)) (wrap64 (x5_1 + 1))))))) = some (r1, r2) := by first | (rw [hy446]; with_reducible exact H) | (have H2_ := (Option.bind_some _ _).symm.trans H; rw [hy446]; with_reducible exact H2_) | (have H2_ := (Option.bind_some _ _).symm.trans H; with_reducible exact H2_) | with_reducible exact H | (rw [hy446]; exact H) | exact H
     have Ny446 := Aside0.mk hy446
     clear hy446
     obtain ⟨y447, hy447⟩ : ∃ y_ : List (S55), y_ = (y446.set (x5_1 : Int).toNat (⟨(rd_T55 y446 x5_1).f0, wrap64 (x1_1 + 1), (rd_T55 y446 x5_1).f2, (rd_T55 y446 x5_1).f3, (rd_T55 y446 x5_1).f4, (rd_T55 y446 x5_1).f5⟩ : S55)) := ⟨_, rfl⟩
     replace H : ((some (y447.set (x5_1 : Int).toNat (⟨(rd_T55 y447 x5_1).f0, (rd_T55 y447 x5_1).f1, wrap64 ((wrap64 (x1_1 + 1)) + 1), (rd_T55 y447 x5_1).f3, (rd_T55 y447 x5_1).f4, (rd_T55 y447 x5_1).f5⟩ : S55) : List (S55))).bind fun y448 => ((some (y448.set (x5_1 : Int).toNat (⟨(rd_T55 y448 x5_1).f0, (rd_T55 y448 x5_1).f1, (rd_T55 y448 x5_1).f2, wrap64 ((wrap64 ((wrap64 (x1_1 + 1)) + 1)) + 1), (rd_T55 y448 x5_1).f4, (rd_T55 y448 x5_1).f5⟩ : S55) : List (S55))).bind fun y449 => ((some (y449.set (x5_1 : Int).toNat (⟨(rd_T55 y449 x5_1).f0, (rd_T55 y449 x5_1).f1, (rd_T55 y449 x5_1).f2, (rd_T55 y449 x5_1).f3, wrap64 ((wrap64 ((wrap64 ((wrap64 (x1_1 + 1)) + 1)) + 1)) + 1), (rd_T55 y449 x5_1).f5⟩ : S55) : List (S55))).bind fun y450 => (laws_markFactS.l0 k1 (y450.set (x5_1 : Int).toNat (⟨(rd_T55 y450 x5_1).f0, (rd_T55 y450 x5_1).f1, (rd_T55 y450 x5_1).f2, (rd_T55 y450 x5_1).f3, (rd_T55 y450 x5_1).f4, wrap64 ((wrap64 ((wrap64 ((wrap64 ((wrap64 (x1_1 + 1)) + 1)) + 1)) + 1)) + 1)⟩ : S55)) (wrap64 ((wrap64 ((wrap64 ((wrap64 ((wrap64 ((wrap64 (x1_1 + 1)) + 1)) + 1)) + 1)) + 1)) + 1)) (wrap64 (x5_1 + 1)))))) = some (r1, r2) := by first | (rw [hy447]; with_reducible exact H) | (have H2_ := (Option.bind_some _ _).symm.trans H; rw [hy447]; with_reducible exact H2_) | (have H2_ := (Option.bind_some _ _).symm.trans H; with_reducible exact H2_) | with_reducible exact H | (rw [hy447]; exact H) | exact H
     have Ny447 := Aside0.mk hy447
     clear hy447
     obtain ⟨y448, hy448⟩ : ∃ y_ : List (S55), y_ = (y447.set (x5_1 : Int).toNat (⟨(rd_T55 y447 x5_1).f0, (rd_T55 y447 x5_1).f1, wrap64 ((wrap64 (x1_1 + 1)) + 1), (rd_T55 y447 x5_1).f3, (rd_T55 y447 x5_1).f4, (rd_T55 y447 x5_1).f5⟩ : S55)) := ⟨_, rfl⟩
     replace H : ((some (y448.set (x5_1 : Int).toNat (⟨(rd_T55 y448 x5_1).f0, (rd_T55 y448 x5_1).f1, (rd_T55 y448 x5_1).f2, wrap64 ((wrap64 ((wrap64 (x1_1 + 1)) + 1)) + 1), (rd_T55 y448 x5_1).f4, (rd_T55 y448 x5_1).f5⟩ : S55) : List (S55))).bind fun y449 => ((some (y449.set (x5_1 : Int).toNat (⟨(rd_T55 y449 x5_1).f0, (rd_T55 y449 x5_1).f1, (rd_T55 y449 x5_1).f2, (rd_T55 y449 x5_1).f3, wrap64 ((wrap64 ((wrap64 ((wrap64 (x1_1 + 1)) + 1)) + 1)) + 1), (rd_T55 y449 x5_1).f5⟩ : S55) : List (S55))).bind fun y450 => (laws_markFactS.l0 k1 (y450.set (x5_1 : Int).toNat (⟨(rd_T55 y450 x5_1).f0, (rd_T55 y450 x5_1).f1, (rd_T55 y450 x5_1).f2, (rd_T55 y450 x5_1).f3, (rd_T55 y450 x5_1).f4, wrap64 ((wrap64 ((wrap64 ((wrap64 ((wrap64 (x1_1 + 1)) + 1)) + 1)) + 1)) + 1)⟩ : S55)) (wrap64 ((wrap64 ((wrap64 ((wrap64 ((wrap64 ((wrap64 (x1_1 + 1)) + 1)) + 1)) + 1)) + 1)) + 1)) (wrap64 (x5_1 + 1))))) = some (r1, r2) := by first | (rw [hy448]; with_reducible exact H) | (have H2_ := (Option.bind_some _ _).symm.trans H; rw [hy448]; with_reducible exact H2_) | (have H2_ := (Option.bind_some _ _).symm.trans H; with_reducible exact H2_) | with_reducible exact H | (rw [hy448]; exact H) | exact H
     have Ny448 := Aside0.mk hy448
     clear hy448
     obtain ⟨y449, hy449⟩ : ∃ y_ : List (S55), y_ = (y448.set (x5_1 : Int).toNat (⟨(rd_T55 y448 x5_1).f0, (rd_T55 y448 x5_1).f1, (rd_T55 y448 x5_1).f2, wrap64 ((wrap64 ((wrap64 (x1_1 + 1)) + 1)) + 1), (rd_T55 y448 x5_1).f4, (rd_T55 y448 x5_1).f5⟩ : S55)) := ⟨_, rfl⟩
     replace H : ((some (y449.set (x5_1 : Int).toNat (⟨(rd_T55 y449 x5_1).f0, (rd_T55 y449 x5_1).f1, (rd_T55 y449 x5_1).f2, (rd_T55 y449 x5_1).f3, wrap64 ((wrap64 ((wrap64 ((wrap64 (x1_1 + 1)) + 1)) + 1)) + 1), (rd_T55 y449 x5_1).f5⟩ : S55) : List (S55))).bind fun y450 => (laws_markFactS.l0 k1 (y450.set (x5_1 : Int).toNat (⟨(rd_T55 y450 x5_1).f0, (rd_T55 y450 x5_1).f1, (rd_T55 y450 x5_1).f2, (rd_T55 y450 x5_1).f3, (rd_T55 y450 x5_1).f4, wrap64 ((wrap64 ((wrap64 ((wrap64 ((wrap64 (x1_1 + 1)) + 1)) + 1)) + 1)) + 1)⟩ : S55)) (wrap64 ((wrap64 ((wrap64 ((wrap64 ((wrap64 ((wrap64 (x1_1 + 1)) + 1)) + 1)) + 1)) + 1)) + 1)) (wrap64 (x5_1 + 1)))) = some (r1, r2) := by first | (rw [hy449]; with_reducible exact H) | (have H2_ := (Option.bind_some _ _).symm.trans H; rw [hy449]; with_reducible exact H2_) | (have H2_ := (Option.bind_some _ _).symm.trans H; with_reducible exact H2_) | with_reducible exact H | (rw [hy449]; exact H) | exact H
     have Ny449 := Aside0.mk hy449
     clear hy449
     obtain ⟨y450, hy450⟩ : ∃ y_ : List (S55), y_ = (y449.set (x5_1 : Int).toNat (⟨(rd_T55 y449 x5_1).f0, (rd_T55 y449 x5_1).f1, (rd_T55 y449 x5_1).f2, (rd_T55 y449 x5_1).f3, wrap64 ((wrap64 ((wrap64 ((wrap64 (x1_1 + 1)) + 1)) + 1)) + 1), (rd_T55 y449 x5_1).f5⟩ : S55)) := ⟨_, rfl⟩
     replace H : (laws_markFactS.l0 k1 (y450.set (x5_1 : Int).toNat (⟨(rd_T55 y450 x5_1).f0, (rd_T55 y450 x5_1).f1, (rd_T55 y450 x5_1).f2, (rd_T55 y450 x5_1).f3, (rd_T55 y450 x5_1).f4, wrap64 ((wrap64 ((wrap64 ((wrap64 ((wrap64 (x1_1 + 1)) + 1)) + 1)) + 1)) + 1)⟩ : S55)) (wrap64 ((wrap64 ((wrap64 ((wrap64 ((wrap64 ((wrap64 (x1_1 + 1)) + 1)) + 1)) + 1)) + 1)) + 1)) (wrap64 (x5_1 + 1))) = some (r1, r2) := by first | (rw [hy450]; with_reducible exact H) | (have H2_ := (Option.bind_some _ _).symm.trans H; rw [hy450]; with_reducible exact H2_) | (have H2_ := (Option.bind_some _ _).symm.trans H; with_reducible exact H2_) | with_reducible exact H | (rw [hy450]; exact H) | exact H
     have Ny450 := Aside0.mk hy450
     clear hy450
     obtain ⟨y451, hy451⟩ : ∃ y_ : List (S55), y_ = (y450.set (x5_1 : Int).toNat (⟨(rd_T55 y450 x5_1).f0, (rd_T55 y450 x5_1).f1, (rd_T55 y450 x5_1).f2, (rd_T55 y450 x5_1).f3, (rd_T55 y450 x5_1).f4, wrap64 ((wrap64 ((wrap64 ((wrap64 ((wrap64 (x1_1 + 1)) + 1)) + 1)) + 1)) + 1)⟩ : S55)) := ⟨_, rfl⟩
     replace H : (laws_markFactS.l0 k1 y451 (wrap64 ((wrap64 ((wrap64 ((wrap64 ((wrap64 ((wrap64 (x1_1 + 1)) + 1)) + 1)) + 1)) + 1)) + 1)) (wrap64 (x5_1 + 1))) = some (r1, r2) := by first | (rw [hy451]; with_reducible exact H) | (have H2_ := (Option.bind_some _ _).symm.trans H; rw [hy451]; with_reducible exact H2_) | (have H2_ := (Option.bind_some _ _).symm.trans H; with_reducible exact H2_) | with_reducible exact H | (rw [hy451]; exact H) | exact H
     have Ny451 := Aside0.mk hy451
     clear hy451
     have H' := Aside0.mk H
     clear H
     obtain ⟨Ao11, co11, eo11⟩ := Kd.R_slice HO_0.out
     subst eo11
     have p5 : 0 ≤ (x5_1 : Int) := of_decide_eq_true s_
     have q5 : (x5_1 : Int) < ((x0_1.length : Int) : Int) := of_decide_eq_true s_
     obtain ⟨go5, co5, eo5, gb5, gl5, cl5, HG5⟩ := Kd.R_form HO_0.out (by omega)
     (first | cases eo5 | (injection eo5 with ea_ en_ ec_; (first | subst ea_ | (injection ea_ with ea_; subst ea_)); subst ec_; clear en_))
     have GB5 := Aside0.mk gb5
     have GG5 := Aside0.mk HG5
     clear gb5 gl5 HG5
     have HMgo5 := Aside0.mk (show (P0_ go5 ∨ w.heap.size ≤ go5) from (HO_0.out.1 _ rfl))
     obtain ⟨ce5, hcl5, hM5, hcc5, hfr5⟩ := Kd.R_elem HO_0.out z55 (x5_1 : Int) p5 q5
     obtain rfl := k55_openM hM5
     have hx5_0 : wr.cell? ⟨go5, (x5_1 : Int).toNat * 6, none⟩ = some (.int .i64 ((rd_T55 x0_1 x5_1).f0)) := hcc5 0 _ rfl
     have hx5_1 : wr.cell? ⟨go5, (x5_1 : Int).toNat * 6 + 1, none⟩ = some (.int .i64 ((rd_T55 x0_1 x5_1).f1)) := hcc5 1 _ rfl
     have hx5_2 : wr.cell? ⟨go5, (x5_1 : Int).toNat * 6 + 2, none⟩ = some (.int .i64 ((rd_T55 x0_1 x5_1).f2)) := hcc5 2 _ rfl
     have hx5_3 : wr.cell? ⟨go5, (x5_1 : Int).toNat * 6 + 3, none⟩ = some (.int .i64 ((rd_T55 x0_1 x5_1).f3)) := hcc5 3 _ rfl
     have hx5_4 : wr.cell? ⟨go5, (x5_1 : Int).toNat * 6 + 4, none⟩ = some (.int .i64 ((rd_T55 x0_1 x5_1).f4)) := hcc5 4 _ rfl
     have hx5_5 : wr.cell? ⟨go5, (x5_1 : Int).toNat * 6 + 5, none⟩ = some (.int .i64 ((rd_T55 x0_1 x5_1).f5)) := hcc5 5 _ rfl
     have hf5_0 : wr.frozen? ⟨go5, (x5_1 : Int).toNat * 6, none⟩ = false := hfr5 0
     have hf5_1 : wr.frozen? ⟨go5, (x5_1 : Int).toNat * 6 + 1, none⟩ = false := hfr5 1
     have hf5_2 : wr.frozen? ⟨go5, (x5_1 : Int).toNat * 6 + 2, none⟩ = false := hfr5 2
     have hf5_3 : wr.frozen? ⟨go5, (x5_1 : Int).toNat * 6 + 3, none⟩ = false := hfr5 3
     have hf5_4 : wr.frozen? ⟨go5, (x5_1 : Int).toNat * 6 + 4, none⟩ = false := hfr5 4
     have hf5_5 : wr.frozen? ⟨go5, (x5_1 : Int).toNat * 6 + 5, none⟩ = false := hfr5 5
     clear hcl5 hcc5 hfr5 hM5
     replace p5 := eq_true p5
     replace q5 := eq_true q5
     have HX12 := Aside0.mk (show Kd.R k55 55 wr w0.heap.size (fun k_ => (P0_ k_ ∨ w.heap.size ≤ k_)) (.slice (some ⟨go5, 0, none⟩) x0_1.length co11) x0_1 from (q_ HO_0.out))
     obtain ⟨ce12, hcl12, hM12, hcc12, hfr12⟩ := Kd.R_elem HX12.out z55 (x5_1 : Int) (of_decide_eq_true s_) z27_0
     obtain rfl := k55_openM hM12
     have HP12 := Kd.R_seg HX12.out (x5_1 : Int) (of_decide_eq_true s_) z27_0 (seg := [.int .i64 x1_1]) (j := 0) hcl12 hcc12 (show 1 ≤ 6 from by decide) (x' := (⟨x1_1, (rd_T55 x0_1 x5_1).f1, (rd_T55 x0_1 x5_1).f2, (rd_T55 x0_1 x5_1).f3, (rd_T55 x0_1 x5_1).f4, (rd_T55 x0_1 x5_1).f5⟩ : S55)) (k55_mkM _ _ _ (⟨x1_1, (rd_T55 x0_1 x5_1).f1, (rd_T55 x0_1 x5_1).f2, (rd_T55 x0_1 x5_1).f3, (rd_T55 x0_1 x5_1).f4, (rd_T55 x0_1 x5_1).f5⟩ : S55) ) (fun _ hk => hk)
     have hx12_0 := hcc12 0 _ rfl
     (try simp only [show (k55).sz = 6 from rfl, Nat.mul_one, Nat.add_zero] at hx12_0)
     have hf12_0 := hfr12 0
     (try simp only [show (k55).sz = 6 from rfl, Nat.mul_one, Nat.add_zero] at hf12_0)
     clear hcl12 hcc12 hfr12 hM12
     go_wp2_with (first | ((with_reducible refine gate_store (t := 3) (p := 16) rfl ?_); refine store_event (t := 3) (p := 16) (v := ?vo_w13) (w1 := (wr.setCell ⟨go5, (x5_1 : Int).toNat * 6, none⟩ (.int .i64 x1_1))) ?hg ?ho ?hn ?hr ?_; (case ho => rfl); (case hg => rfl); (case hn => rfl); (case hr => first | (go_simp; done) | (go_simp; rfl)); intro w13 hw; have hg : wr.grownBy w13 (some go5) := (by rw [hw]; exact HP12.2); have hp_ : Kd.R k55 55 w13 w0.heap.size (fun k_ => (P0_ k_ ∨ w.heap.size ≤ k_)) (.slice (some ⟨go5, 0, none⟩) x0_1.length co11) y446 := (by rw [hw, Ny446.out]; exact HP12.1); clear HP12; replace HB := Aside0.mk ((by rw [hw]; exact below_set (HB.out) GB5.out : Below w0.heap.size w0 w13)); replace HK := Aside0.mk (Kept.of_grown (S := (fun k_ => P0_ k_)) hg z27_1 (fun k_ e_ => (HO_0.out.1 k_ e_))); replace HO_0 := Aside0.mk (hp_); clear hg hw hp_; have p6 : 0 ≤ (x5_1 : Int) := of_decide_eq_true s_; have q6 : (x5_1 : Int) < ((x0_1.length : Int) : Int) := of_decide_eq_true s_; obtain ⟨ce6, hcl6, hM6, hcc6, hfr6⟩ := Kd.R_elem HO_0.out z55 (x5_1 : Int) p6 q6; obtain rfl := k55_openM hM6; have hx6_0 : w13.cell? ⟨go5, (x5_1 : Int).toNat * 6, none⟩ = some (.int .i64 ((rd_T55 y446 x5_1).f0)) := hcc6 0 _ rfl; have hx6_1 : w13.cell? ⟨go5, (x5_1 : Int).toNat * 6 + 1, none⟩ = some (.int .i64 ((rd_T55 y446 x5_1).f1)) := hcc6 1 _ rfl; have hx6_2 : w13.cell? ⟨go5, (x5_1 : Int).toNat * 6 + 2, none⟩ = some (.int .i64 ((rd_T55 y446 x5_1).f2)) := hcc6 2 _ rfl; have hx6_3 : w13.cell? ⟨go5, (x5_1 : Int).toNat * 6 + 3, none⟩ = some (.int .i64 ((rd_T55 y446 x5_1).f3)) := hcc6 3 _ rfl; have hx6_4 : w13.cell? ⟨go5, (x5_1 : Int).toNat * 6 + 4, none⟩ = some (.int .i64 ((rd_T55 y446 x5_1).f4)) := hcc6 4 _ rfl; have hx6_5 : w13.cell? ⟨go5, (x5_1 : Int).toNat * 6 + 5, none⟩ = some (.int .i64 ((rd_T55 y446 x5_1).f5)) := hcc6 5 _ rfl; have hf6_0 : w13.frozen? ⟨go5, (x5_1 : Int).toNat * 6, none⟩ = false := hfr6 0; have hf6_1 : w13.frozen? ⟨go5, (x5_1 : Int).toNat * 6 + 1, none⟩ = false := hfr6 1; have hf6_2 : w13.frozen? ⟨go5, (x5_1 : Int).toNat * 6 + 2, none⟩ = false := hfr6 2; have hf6_3 : w13.frozen? ⟨go5, (x5_1 : Int).toNat * 6 + 3, none⟩ = false := hfr6 3; have hf6_4 : w13.frozen? ⟨go5, (x5_1 : Int).toNat * 6 + 4, none⟩ = false := hfr6 4; have hf6_5 : w13.frozen? ⟨go5, (x5_1 : Int).toNat * 6 + 5, none⟩ = false := hfr6 5; clear hcl6 hcc6 hfr6 hM6; replace p6 := eq_true p6; replace q6 := eq_true q6; have HX14 := Aside0.mk (show Kd.R k55 55 w13 w0.heap.size (fun k_ => (P0_ k_ ∨ w.heap.size ≤ k_)) (.slice (some ⟨go5, 0, none⟩) x0_1.length co11) y446 from (q_ HO_0.out)); obtain ⟨ce14, hcl14, hM14, hcc14, hfr14⟩ := Kd.R_elem HX14.out z55 (x5_1 : Int) (of_decide_eq_true s_) z27_0; obtain rfl := k55_openM hM14; have HP14 := Kd.R_seg HX14.out (x5_1 : Int) (of_decide_eq_true s_) z27_0 (seg := [.int .i64 (wrap64 (x1_1 + 1))]) (j := 1) hcl14 hcc14 (show 2 ≤ 6 from by decide) (x' := (⟨(rd_T55 y446 x5_1).f0, wrap64 (x1_1 + 1), (rd_T55 y446 x5_1).f2, (rd_T55 y446 x5_1).f3, (rd_T55 y446 x5_1).f4, (rd_T55 y446 x5_1).f5⟩ : S55)) (k55_mkM _ _ _ (⟨(rd_T55 y446 x5_1).f0, wrap64 (x1_1 + 1), (rd_T55 y446 x5_1).f2, (rd_T55 y446 x5_1).f3, (rd_T55 y446 x5_1).f4, (rd_T55 y446 x5_1).f5⟩ : S55) ) (fun _ hk => hk); have hx14_1 := hcc14 1 _ rfl; (try simp only [show (k55).sz = 6 from rfl, Nat.mul_one, Nat.add_zero] at hx14_1); have hf14_1 := hfr14 1; (try simp only [show (k55).sz = 6 from rfl, Nat.mul_one, Nat.add_zero] at hf14_1); clear hcl14 hcc14 hfr14 hM14) | ((with_reducible refine gate_store (t := 3) (p := 23) rfl ?_); refine store_event (t := 3) (p := 23) (v := ?vo_w15) (w1 := (w13.setCell ⟨go5, (x5_1 : Int).toNat * 6 + 1, none⟩ (.int .i64 (wrap64 (x1_1 + 1))))) ?hg ?ho ?hn ?hr ?_; (case ho => rfl); (case hg => rfl); (case hn => rfl); (case hr => first | (go_simp; done) | (go_simp; rfl)); intro w15 hw; have hg : w13.grownBy w15 (some go5) := (by rw [hw]; exact HP14.2); have hp_ : Kd.R k55 55 w15 w0.heap.size (fun k_ => (P0_ k_ ∨ w.heap.size ≤ k_)) (.slice (some ⟨go5, 0, none⟩) x0_1.length co11) y447 := (by rw [hw, Ny447.out]; exact HP14.1); clear HP14; replace HB := Aside0.mk ((by rw [hw]; exact below_set (HB.out) GB5.out : Below w0.heap.size w0 w15)); replace HK := Aside0.mk (Kept.of_grown (S := (fun k_ => P0_ k_)) hg z27_1 (fun k_ e_ => (HO_0.out.1 k_ e_))); replace HO_0 := Aside0.mk (hp_); clear hg hw hp_; have p7 : 0 ≤ (x5_1 : Int) := of_decide_eq_true s_; have q7 : (x5_1 : Int) < ((x0_1.length : Int) : Int) := of_decide_eq_true s_; obtain ⟨ce7, hcl7, hM7, hcc7, hfr7⟩ := Kd.R_elem HO_0.out z55 (x5_1 : Int) p7 q7; obtain rfl := k55_openM hM7; have hx7_0 : w15.cell? ⟨go5, (x5_1 : Int).toNat * 6, none⟩ = some (.int .i64 ((rd_T55 y447 x5_1).f0)) := hcc7 0 _ rfl; have hx7_1 : w15.cell? ⟨go5, (x5_1 : Int).toNat * 6 + 1, none⟩ = some (.int .i64 ((rd_T55 y447 x5_1).f1)) := hcc7 1 _ rfl; have hx7_2 : w15.cell? ⟨go5, (x5_1 : Int).toNat * 6 + 2, none⟩ = some (.int .i64 ((rd_T55 y447 x5_1).f2)) := hcc7 2 _ rfl; have hx7_3 : w15.cell? ⟨go5, (x5_1 : Int).toNat * 6 + 3, none⟩ = some (.int .i64 ((rd_T55 y447 x5_1).f3)) := hcc7 3 _ rfl; have hx7_4 : w15.cell? ⟨go5, (x5_1 : Int).toNat * 6 + 4, none⟩ = some (.int .i64 ((rd_T55 y447 x5_1).f4)) := hcc7 4 _ rfl; have hx7_5 : w15.cell? ⟨go5, (x5_1 : Int).toNat * 6 + 5, none⟩ = some (.int .i64 ((rd_T55 y447 x5_1).f5)) := hcc7 5 _ rfl; have hf7_0 : w15.frozen? ⟨go5, (x5_1 : Int).toNat * 6, none⟩ = false := hfr7 0; have hf7_1 : w15.frozen? ⟨go5, (x5_1 : Int).toNat * 6 + 1, none⟩ = false := hfr7 1; have hf7_2 : w15.frozen? ⟨go5, (x5_1 : Int).toNat * 6 + 2, none⟩ = false := hfr7 2; have hf7_3 : w15.frozen? ⟨go5, (x5_1 : Int).toNat * 6 + 3, none⟩ = false := hfr7 3; have hf7_4 : w15.frozen? ⟨go5, (x5_1 : Int).toNat * 6 + 4, none⟩ = false := hfr7 4; have hf7_5 : w15.frozen? ⟨go5, (x5_1 : Int).toNat * 6 + 5, none⟩ = false := hfr7 5; clear hcl7 hcc7 hfr7 hM7; replace p7 := eq_true p7; replace q7 := eq_true q7; have HX16 := Aside0.mk (show Kd.R k55 55 w15 w0.heap.size (fun k_ => (P0_ k_ ∨ w.heap.size ≤ k_)) (.slice (some ⟨go5, 0, none⟩) x0_1.length co11) y447 from (q_ HO_0.out)); obtain ⟨ce16, hcl16, hM16, hcc16, hfr16⟩ := Kd.R_elem HX16.out z55 (x5_1 : Int) (of_decide_eq_true s_) z27_0; obtain rfl := k55_openM hM16; have HP16 := Kd.R_seg HX16.out (x5_1 : Int) (of_decide_eq_true s_) z27_0 (seg := [.int .i64 (wrap64 ((wrap64 (x1_1 + 1)) + 1))]) (j := 2) hcl16 hcc16 (show 3 ≤ 6 from by decide) (x' := (⟨(rd_T55 y447 x5_1).f0, (rd_T55 y447 x5_1).f1, wrap64 ((wrap64 (x1_1 + 1)) + 1), (rd_T55 y447 x5_1).f3, (rd_T55 y447 x5_1).f4, (rd_T55 y447 x5_1).f5⟩ : S55)) (k55_mkM _ _ _ (⟨(rd_T55 y447 x5_1).f0, (rd_T55 y447 x5_1).f1, wrap64 ((wrap64 (x1_1 + 1)) + 1), (rd_T55 y447 x5_1).f3, (rd_T55 y447 x5_1).f4, (rd_T55 y447 x5_1).f5⟩ : S55) ) (fun _ hk => hk); have hx16_2 := hcc16 2 _ rfl; (try simp only [show (k55).sz = 6 from rfl, Nat.mul_one, Nat.add_zero] at hx16_2); have hf16_2 := hfr16 2; (try simp only [show (k55).sz = 6 from rfl, Nat.mul_one, Nat.add_zero] at hf16_2); clear hcl16 hcc16 hfr16 hM16) | ((with_reducible refine gate_store (t := 3) (p := 30) rfl ?_); refine store_event (t := 3) (p := 30) (v := ?vo_w17) (w1 := (w15.setCell ⟨go5, (x5_1 : Int).toNat * 6 + 2, none⟩ (.int .i64 (wrap64 ((wrap64 (x1_1 + 1)) + 1))))) ?hg ?ho ?hn ?hr ?_; (case ho => rfl); (case hg => rfl); (case hn => rfl); (case hr => first | (go_simp; done) | (go_simp; rfl)); intro w17 hw; have hg : w15.grownBy w17 (some go5) := (by rw [hw]; exact HP16.2); have hp_ : Kd.R k55 55 w17 w0.heap.size (fun k_ => (P0_ k_ ∨ w.heap.size ≤ k_)) (.slice (some ⟨go5, 0, none⟩) x0_1.length co11) y448 := (by rw [hw, Ny448.out]; exact HP16.1); clear HP16; replace HB := Aside0.mk ((by rw [hw]; exact below_set (HB.out) GB5.out : Below w0.heap.size w0 w17)); replace HK := Aside0.mk (Kept.of_grown (S := (fun k_ => P0_ k_)) hg z27_1 (fun k_ e_ => (HO_0.out.1 k_ e_))); replace HO_0 := Aside0.mk (hp_); clear hg hw hp_; have p8 : 0 ≤ (x5_1 : Int) := of_decide_eq_true s_; have q8 : (x5_1 : Int) < ((x0_1.length : Int) : Int) := of_decide_eq_true s_; obtain ⟨ce8, hcl8, hM8, hcc8, hfr8⟩ := Kd.R_elem HO_0.out z55 (x5_1 : Int) p8 q8; obtain rfl := k55_openM hM8; have hx8_0 : w17.cell? ⟨go5, (x5_1 : Int).toNat * 6, none⟩ = some (.int .i64 ((rd_T55 y448 x5_1).f0)) := hcc8 0 _ rfl; have hx8_1 : w17.cell? ⟨go5, (x5_1 : Int).toNat * 6 + 1, none⟩ = some (.int .i64 ((rd_T55 y448 x5_1).f1)) := hcc8 1 _ rfl; have hx8_2 : w17.cell? ⟨go5, (x5_1 : Int).toNat * 6 + 2, none⟩ = some (.int .i64 ((rd_T55 y448 x5_1).f2)) := hcc8 2 _ rfl; have hx8_3 : w17.cell? ⟨go5, (x5_1 : Int).toNat * 6 + 3, none⟩ = some (.int .i64 ((rd_T55 y448 x5_1).f3)) := hcc8 3 _ rfl; have hx8_4 : w17.cell? ⟨go5, (x5_1 : Int).toNat * 6 + 4, none⟩ = some (.int .i64 ((rd_T55 y448 x5_1).f4)) := hcc8 4 _ rfl; have hx8_5 : w17.cell? ⟨go5, (x5_1 : Int).toNat * 6 + 5, none⟩ = some (.int .i64 ((rd_T55 y448 x5_1).f5)) := hcc8 5 _ rfl; have hf8_0 : w17.frozen? ⟨go5, (x5_1 : Int).toNat * 6, none⟩ = false := hfr8 0; have hf8_1 : w17.frozen? ⟨go5, (x5_1 : Int).toNat * 6 + 1, none⟩ = false := hfr8 1; have hf8_2 : w17.frozen? ⟨go5, (x5_1 : Int).toNat * 6 + 2, none⟩ = false := hfr8 2; have hf8_3 : w17.frozen? ⟨go5, (x5_1 : Int).toNat * 6 + 3, none⟩ = false := hfr8 3; have hf8_4 : w17.frozen? ⟨go5, (x5_1 : Int).toNat * 6 + 4, none⟩ = false := hfr8 4; have hf8_5 : w17.frozen? ⟨go5, (x5_1 : Int).toNat * 6 + 5, none⟩ = false := hfr8 5; clear hcl8 hcc8 hfr8 hM8; replace p8 := eq_true p8; replace q8 := eq_true q8; have HX18 := Aside0.mk (show Kd.R k55 55 w17 w0.heap.size (fun k_ => (P0_ k_ ∨ w.heap.size ≤ k_)) (.slice (some ⟨go5, 0, none⟩) x0_1.length co11) y448 from (q_ HO_0.out)); obtain ⟨ce18, hcl18, hM18, hcc18, hfr18⟩ := Kd.R_elem HX18.out z55 (x5_1 : Int) (of_decide_eq_true s_) z27_0; obtain rfl := k55_openM hM18; have HP18 := Kd.R_seg HX18.out (x5_1 : Int) (of_decide_eq_true s_) z27_0 (seg := [.int .i64 (wrap64 ((wrap64 ((wrap64 (x1_1 + 1)) + 1)) + 1))]) (j := 3) hcl18 hcc18 (show 4 ≤ 6 from by decide) (x' := (⟨(rd_T55 y448 x5_1).f0, (rd_T55 y448 x5_1).f1, (rd_T55 y448 x5_1).f2, wrap64 ((wrap64 ((wrap64 (x1_1 + 1)) + 1)) + 1), (rd_T55 y448 x5_1).f4, (rd_T55 y448 x5_1).f5⟩ : S55)) (k55_mkM _ _ _ (⟨(rd_T55 y448 x5_1).f0, (rd_T55 y448 x5_1).f1, (rd_T55 y448 x5_1).f2, wrap64 ((wrap64 ((wrap64 (x1_1 + 1)) + 1)) + 1), (rd_T55 y448 x5_1).f4, (rd_T55 y448 x5_1).f5⟩ : S55) ) (fun _ hk => hk); have hx18_3 := hcc18 3 _ rfl; (try simp only [show (k55).sz = 6 from rfl, Nat.mul_one, Nat.add_zero] at hx18_3); have hf18_3 := hfr18 3; (try simp only [show (k55).sz = 6 from rfl, Nat.mul_one, Nat.add_zero] at hf18_3); clear hcl18 hcc18 hfr18 hM18) | ((with_reducible refine gate_store (t := 3) (p := 37) rfl ?_); refine store_event (t := 3) (p := 37) (v := ?vo_w19) (w1 := (w17.setCell ⟨go5, (x5_1 : Int).toNat * 6 + 3, none⟩ (.int .i64 (wrap64 ((wrap64 ((wrap64 (x1_1 + 1)) + 1)) + 1))))) ?hg ?ho ?hn ?hr ?_; (case ho => rfl); (case hg => rfl); (case hn => rfl); (case hr => first | (go_simp; done) | (go_simp; rfl)); intro w19 hw; have hg : w17.grownBy w19 (some go5) := (by rw [hw]; exact HP18.2); have hp_ : Kd.R k55 55 w19 w0.heap.size (fun k_ => (P0_ k_ ∨ w.heap.size ≤ k_)) (.slice (some ⟨go5, 0, none⟩) x0_1.length co11) y449 := (by rw [hw, Ny449.out]; exact HP18.1); clear HP18; replace HB := Aside0.mk ((by rw [hw]; exact below_set (HB.out) GB5.out : Below w0.heap.size w0 w19)); replace HK := Aside0.mk (Kept.of_grown (S := (fun k_ => P0_ k_)) hg z27_1 (fun k_ e_ => (HO_0.out.1 k_ e_))); replace HO_0 := Aside0.mk (hp_); clear hg hw hp_; have p9 : 0 ≤ (x5_1 : Int) := of_decide_eq_true s_; have q9 : (x5_1 : Int) < ((x0_1.length : Int) : Int) := of_decide_eq_true s_; obtain ⟨ce9, hcl9, hM9, hcc9, hfr9⟩ := Kd.R_elem HO_0.out z55 (x5_1 : Int) p9 q9; obtain rfl := k55_openM hM9; have hx9_0 : w19.cell? ⟨go5, (x5_1 : Int).toNat * 6, none⟩ = some (.int .i64 ((rd_T55 y449 x5_1).f0)) := hcc9 0 _ rfl; have hx9_1 : w19.cell? ⟨go5, (x5_1 : Int).toNat * 6 + 1, none⟩ = some (.int .i64 ((rd_T55 y449 x5_1).f1)) := hcc9 1 _ rfl; have hx9_2 : w19.cell? ⟨go5, (x5_1 : Int).toNat * 6 + 2, none⟩ = some (.int .i64 ((rd_T55 y449 x5_1).f2)) := hcc9 2 _ rfl; have hx9_3 : w19.cell? ⟨go5, (x5_1 : Int).toNat * 6 + 3, none⟩ = some (.int .i64 ((rd_T55 y449 x5_1).f3)) := hcc9 3 _ rfl; have hx9_4 : w19.cell? ⟨go5, (x5_1 : Int).toNat * 6 + 4, none⟩ = some (.int .i64 ((rd_T55 y449 x5_1).f4)) := hcc9 4 _ rfl; have hx9_5 : w19.cell? ⟨go5, (x5_1 : Int).toNat * 6 + 5, none⟩ = some (.int .i64 ((rd_T55 y449 x5_1).f5)) := hcc9 5 _ rfl; have hf9_0 : w19.frozen? ⟨go5, (x5_1 : Int).toNat * 6, none⟩ = false := hfr9 0; have hf9_1 : w19.frozen? ⟨go5, (x5_1 : Int).toNat * 6 + 1, none⟩ = false := hfr9 1; have hf9_2 : w19.frozen? ⟨go5, (x5_1 : Int).toNat * 6 + 2, none⟩ = false := hfr9 2; have hf9_3 : w19.frozen? ⟨go5, (x5_1 : Int).toNat * 6 + 3, none⟩ = false := hfr9 3; have hf9_4 : w19.frozen? ⟨go5, (x5_1 : Int).toNat * 6 + 4, none⟩ = false := hfr9 4; have hf9_5 : w19.frozen? ⟨go5, (x5_1 : Int).toNat * 6 + 5, none⟩ = false := hfr9 5; clear hcl9 hcc9 hfr9 hM9; replace p9 := eq_true p9; replace q9 := eq_true q9; have HX20 := Aside0.mk (show Kd.R k55 55 w19 w0.heap.size (fun k_ => (P0_ k_ ∨ w.heap.size ≤ k_)) (.slice (some ⟨go5, 0, none⟩) x0_1.length co11) y449 from (q_ HO_0.out)); obtain ⟨ce20, hcl20, hM20, hcc20, hfr20⟩ := Kd.R_elem HX20.out z55 (x5_1 : Int) (of_decide_eq_true s_) z27_0; obtain rfl := k55_openM hM20; have HP20 := Kd.R_seg HX20.out (x5_1 : Int) (of_decide_eq_true s_) z27_0 (seg := [.int .i64 (wrap64 ((wrap64 ((wrap64 ((wrap64 (x1_1 + 1)) + 1)) + 1)) + 1))]) (j := 4) hcl20 hcc20 (show 5 ≤ 6 from by decide) (x' := (⟨(rd_T55 y449 x5_1).f0, (rd_T55 y449 x5_1).f1, (rd_T55 y449 x5_1).f2, (rd_T55 y449 x5_1).f3, wrap64 ((wrap64 ((wrap64 ((wrap64 (x1_1 + 1)) + 1)) + 1)) + 1), (rd_T55 y449 x5_1).f5⟩ : S55)) (k55_mkM _ _ _ (⟨(rd_T55 y449 x5_1).f0, (rd_T55 y449 x5_1).f1, (rd_T55 y449 x5_1).f2, (rd_T55 y449 x5_1).f3, wrap64 ((wrap64 ((wrap64 ((wrap64 (x1_1 + 1)) + 1)) + 1)) + 1), (rd_T55 y449 x5_1).f5⟩ : S55) ) (fun _ hk => hk); have hx20_4 := hcc20 4 _ rfl; (try simp only [show (k55).sz = 6 from rfl, Nat.mul_one, Nat.add_zero] at hx20_4); have hf20_4 := hfr20 4; (try simp only [show (k55).sz = 6 from rfl, Nat.mul_one, Nat.add_zero] at hf20_4); clear hcl20 hcc20 hfr20 hM20) | ((with_reducible refine gate_store (t := 3) (p := 44) rfl ?_); refine store_event (t := 3) (p := 44) (v := ?vo_w21) (w1 := (w19.setCell ⟨go5, (x5_1 : Int).toNat * 6 + 4, none⟩ (.int .i64 (wrap64 ((wrap64 ((wrap64 ((wrap64 (x1_1 + 1)) + 1)) + 1)) + 1))))) ?hg ?ho ?hn ?hr ?_; (case ho => rfl); (case hg => rfl); (case hn => rfl); (case hr => first | (go_simp; done) | (go_simp; rfl)); intro w21 hw; have hg : w19.grownBy w21 (some go5) := (by rw [hw]; exact HP20.2); have hp_ : Kd.R k55 55 w21 w0.heap.size (fun k_ => (P0_ k_ ∨ w.heap.size ≤ k_)) (.slice (some ⟨go5, 0, none⟩) x0_1.length co11) y450 := (by rw [hw, Ny450.out]; exact HP20.1); clear HP20; replace HB := Aside0.mk ((by rw [hw]; exact below_set (HB.out) GB5.out : Below w0.heap.size w0 w21)); replace HK := Aside0.mk (Kept.of_grown (S := (fun k_ => P0_ k_)) hg z27_1 (fun k_ e_ => (HO_0.out.1 k_ e_))); replace HO_0 := Aside0.mk (hp_); clear hg hw hp_; have p10 : 0 ≤ (x5_1 : Int) := of_decide_eq_true s_; have q10 : (x5_1 : Int) < ((x0_1.length : Int) : Int) := of_decide_eq_true s_; obtain ⟨ce10, hcl10, hM10, hcc10, hfr10⟩ := Kd.R_elem HO_0.out z55 (x5_1 : Int) p10 q10; obtain rfl := k55_openM hM10; have hx10_0 : w21.cell? ⟨go5, (x5_1 : Int).toNat * 6, none⟩ = some (.int .i64 ((rd_T55 y450 x5_1).f0)) := hcc10 0 _ rfl; have hx10_1 : w21.cell? ⟨go5, (x5_1 : Int).toNat * 6 + 1, none⟩ = some (.int .i64 ((rd_T55 y450 x5_1).f1)) := hcc10 1 _ rfl; have hx10_2 : w21.cell? ⟨go5, (x5_1 : Int).toNat * 6 + 2, none⟩ = some (.int .i64 ((rd_T55 y450 x5_1).f2)) := hcc10 2 _ rfl; have hx10_3 : w21.cell? ⟨go5, (x5_1 : Int).toNat * 6 + 3, none⟩ = some (.int .i64 ((rd_T55 y450 x5_1).f3)) := hcc10 3 _ rfl; have hx10_4 : w21.cell? ⟨go5, (x5_1 : Int).toNat * 6 + 4, none⟩ = some (.int .i64 ((rd_T55 y450 x5_1).f4)) := hcc10 4 _ rfl; have hx10_5 : w21.cell? ⟨go5, (x5_1 : Int).toNat * 6 + 5, none⟩ = some (.int .i64 ((rd_T55 y450 x5_1).f5)) := hcc10 5 _ rfl; have hf10_0 : w21.frozen? ⟨go5, (x5_1 : Int).toNat * 6, none⟩ = false := hfr10 0; have hf10_1 : w21.frozen? ⟨go5, (x5_1 : Int).toNat * 6 + 1, none⟩ = false := hfr10 1; have hf10_2 : w21.frozen? ⟨go5, (x5_1 : Int).toNat * 6 + 2, none⟩ = false := hfr10 2; have hf10_3 : w21.frozen? ⟨go5, (x5_1 : Int).toNat * 6 + 3, none⟩ = false := hfr10 3; have hf10_4 : w21.frozen? ⟨go5, (x5_1 : Int).toNat * 6 + 4, none⟩ = false := hfr10 4; have hf10_5 : w21.frozen? ⟨go5, (x5_1 : Int).toNat * 6 + 5, none⟩ = false := hfr10 5; clear hcl10 hcc10 hfr10 hM10; replace p10 := eq_true p10; replace q10 := eq_true q10; have HX22 := Aside0.mk (show Kd.R k55 55 w21 w0.heap.size (fun k_ => (P0_ k_ ∨ w.heap.size ≤ k_)) (.slice (some ⟨go5, 0, none⟩) x0_1.length co11) y450 from (q_ HO_0.out)); obtain ⟨ce22, hcl22, hM22, hcc22, hfr22⟩ := Kd.R_elem HX22.out z55 (x5_1 : Int) (of_decide_eq_true s_) z27_0; obtain rfl := k55_openM hM22; have HP22 := Kd.R_seg HX22.out (x5_1 : Int) (of_decide_eq_true s_) z27_0 (seg := [.int .i64 (wrap64 ((wrap64 ((wrap64 ((wrap64 ((wrap64 (x1_1 + 1)) + 1)) + 1)) + 1)) + 1))]) (j := 5) hcl22 hcc22 (show 6 ≤ 6 from by decide) (x' := (⟨(rd_T55 y450 x5_1).f0, (rd_T55 y450 x5_1).f1, (rd_T55 y450 x5_1).f2, (rd_T55 y450 x5_1).f3, (rd_T55 y450 x5_1).f4, wrap64 ((wrap64 ((wrap64 ((wrap64 ((wrap64 (x1_1 + 1)) + 1)) + 1)) + 1)) + 1)⟩ : S55)) (k55_mkM _ _ _ (⟨(rd_T55 y450 x5_1).f0, (rd_T55 y450 x5_1).f1, (rd_T55 y450 x5_1).f2, (rd_T55 y450 x5_1).f3, (rd_T55 y450 x5_1).f4, wrap64 ((wrap64 ((wrap64 ((wrap64 ((wrap64 (x1_1 + 1)) + 1)) + 1)) + 1)) + 1)⟩ : S55) ) (fun _ hk => hk); have hx22_5 := hcc22 5 _ rfl; (try simp only [show (k55).sz = 6 from rfl, Nat.mul_one, Nat.add_zero] at hx22_5); have hf22_5 := hfr22 5; (try simp only [show (k55).sz = 6 from rfl, Nat.mul_one, Nat.add_zero] at hf22_5); clear hcl22 hcc22 hfr22 hM22) | ((with_reducible refine gate_store (t := 3) (p := 51) rfl ?_); refine store_event (t := 3) (p := 51) (v := ?vo_w23) (w1 := (w21.setCell ⟨go5, (x5_1 : Int).toNat * 6 + 5, none⟩ (.int .i64 (wrap64 ((wrap64 ((wrap64 ((wrap64 ((wrap64 (x1_1 + 1)) + 1)) + 1)) + 1)) + 1))))) ?hg ?ho ?hn ?hr ?_; (case ho => rfl); (case hg => rfl); (case hn => rfl); (case hr => first | (go_simp; done) | (go_simp; rfl)); intro w23 hw; have hg : w21.grownBy w23 (some go5) := (by rw [hw]; exact HP22.2); have hp_ : Kd.R k55 55 w23 w0.heap.size (fun k_ => (P0_ k_ ∨ w.heap.size ≤ k_)) (.slice (some ⟨go5, 0, none⟩) x0_1.length co11) y451 := (by rw [hw, Ny451.out]; exact HP22.1); clear HP22; replace HB := Aside0.mk ((by rw [hw]; exact below_set (HB.out) GB5.out : Below w0.heap.size w0 w23)); replace HK := Aside0.mk (Kept.of_grown (S := (fun k_ => P0_ k_)) hg z27_1 (fun k_ e_ => (HO_0.out.1 k_ e_))); replace HO_0 := Aside0.mk (hp_); clear hg hw hp_))
     go_roundg k1
     case measure => have := HK1.out; omega
     case rel => exact ⟨(y451), (wrap64 ((wrap64 ((wrap64 ((wrap64 ((wrap64 ((wrap64 (x1_1 + 1)) + 1)) + 1)) + 1)) + 1)) + 1)), (wrap64 (x5_1 + 1)), r_, r_, H', ⟨by have := HK1.out; omega⟩, ⟨by (with_reducible repeat (first | apply Kd.R_alloc | apply Kd.R_drewN | apply Kd.R_drew)); exact HO_0.out⟩, ⟨by repeat (first | (with_reducible first | exact HK.out | apply Kept.alloc | apply Kept.drewN | apply Kept.drew) | exact HK.out)⟩, ⟨h_⟩⟩
    ·rw [if_neg c4] at H
     exact absurd H (by simp)
   ·rw [if_neg c3] at H
    have c3b0 : decide (x5_1 < (x0_1.length : Int)) = false := decide_eq_false c3
    clear c3
    simp only [Option.some.injEq, Prod.mk.injEq] at H
    obtain ⟨rfl, rfl⟩ := H
    obtain ⟨Ao24, co24, eo24⟩ := Kd.R_slice HO_0.out
    subst eo24
    go_wp2
    go_ret
    exact ⟨e_, by (with_reducible repeat (first | apply Kd.R_alloc | apply Kd.R_drewN | apply Kd.R_drew)); exact HO_0.out, h_, by repeat (first | (with_reducible first | exact HK.out | apply Kept.alloc | apply Kept.drewN | apply Kept.drew) | exact HK.out)⟩

end Go.Proofs.Ytabpgiebhgkfhaa.XFnExactTakeStated
