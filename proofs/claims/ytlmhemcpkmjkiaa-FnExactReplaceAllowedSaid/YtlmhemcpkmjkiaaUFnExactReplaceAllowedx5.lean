/- Written by this session's own program (wip/xprint, which runs over the kit's print): what the functions that the law reaches come to, each proved; and the law's row. Conditions: none. -/
import Derived.Test.YtlmhemcpkmjkiaaUFnExactReplaceAllowedSq
import Derived.Test.YtlmhemcpkmjkiaaUFnExactReplaceAllowedx0
import Derived.Test.YtlmhemcpkmjkiaaUFnExactReplaceAllowedx4
namespace Go.Proofs.Ytlmhemcpkmjkiaa.XFnExactReplaceAllowed
open Go.RowKit Go.Proofs.YtlmhemcpkmjkiaaW.PrintWords Go.Proofs.YtlmhemcpkmjkiaaW.PrintLast Go.Proofs.YtlmhemcpkmjkiaaW.PrintMore Go.Proofs.YtlmhemcpkmjkiaaSq
attribute [local go_sem] max2_int min2_int max_two min_two max_three min_three max_four min_four   -- for this text's walks alone
set_option linter.unusedVariables false
set_option linter.unusedSimpArgs false

/-! ### impl_IsAllowed: function 32 -/
def impl_IsAllowed.l0 : Nat → List (List Int) → Int → Int → Int → List Int → List Int → List Int → Option (Bool)
 | 0, _, _, _, _, _, _, _ => none
 | k + 1, x11, x12, x13, x193000, x193001, x193002, x193003 => if x13 < x12 then (if 0 ≤ x13 then (if x13 < (x11.length : Int) then (if ((rd_L1 x11 x13).length : Int) > 8 then (some false) else ((impl_isAscending.f k (rd_L1 x11 x13) 0 99).bind fun t197 => (if t197 = true then (impl_IsAllowed.l0 k x11 x12 (wrap64 (x13 + 1)) x193000 x193001 x193002 x193003) else (some false)))) else (none)) else (none)) else (if x193000 ≥ 0 then ((impl_areApart.f x193001 x193002).bind fun t198 => (if t198 = true then ((impl_areApart.f x193001 x193003).bind fun t199 => (if t199 = true then ((impl_areApart.f x193002 x193003).bind fun t200 => (some t200)) else (some false))) else (some false))) else (some false))
def impl_IsAllowed.f (k : Nat) (a0_0 : Int) (l0_1 : List Int) (l0_2 : List Int) (l0_3 : List Int) : Option (Bool) := (some (([l0_1, l0_2, l0_3] : List (List Int)) : List (List Int))).bind fun y193 => (impl_IsAllowed.l0 k y193 (y193.length : Int) 0 a0_0 l0_1 l0_2 l0_3)
theorem z32_0 {Q : Prop} (g : Q := by (with_reducible repeat (first | apply Kd.V_alloc | apply Kd.V_drewN | apply Kd.V_drew)); exact HO_193003.out) : Q := g
theorem z32_1 {Q : Prop} (g : Q := by (with_reducible repeat (first | apply Kd.V_alloc | apply Kd.V_drewN | apply Kd.V_drew)); exact HO_193002.out) : Q := g
theorem z32_2 {Q : Prop} (g : Q := by (with_reducible repeat (first | apply Kd.V_alloc | apply Kd.V_drewN | apply Kd.V_drew)); exact HO_193001.out) : Q := g
theorem z32_3 {Q : Prop} (g : Q := by (with_reducible repeat (first | apply Kd.N_alloc | apply Kd.N_drewN | apply Kd.N_drew)); exact HO_11.out) : Q := g
set_option maxHeartbeats 8000000 in
set_option maxRecDepth 100000 in
theorem impl_IsAllowed.calls (k : Nat) (a0_0 : Int) (P0_1_ : Nat → Prop) (A0_1 : Option Addr) (c0_1 : Nat) (l0_1 : List Int) (P0_2_ : Nat → Prop) (A0_2 : Option Addr) (c0_2 : Nat) (l0_2 : List Int) (P0_3_ : Nat → Prop) (A0_3 : Option Addr) (c0_3 : Nat) (l0_3 : List Int) (r : Bool) (w : World) (hs0_1 : Kd.V (Kd.int .i64) 3 w w.heap.size (fun k_ => P0_1_ k_) (.slice A0_1 l0_1.length c0_1) l0_1) (hs0_2 : Kd.V (Kd.int .i64) 3 w w.heap.size (fun k_ => P0_2_ k_) (.slice A0_2 l0_2.length c0_2) l0_2) (hs0_3 : Kd.V (Kd.int .i64) 3 w w.heap.size (fun k_ => P0_3_ k_) (.slice A0_3 l0_3.length c0_3) l0_3) (h : impl_IsAllowed.f k a0_0 l0_1 l0_2 l0_3 = some r) :
  Calls Try.prog 32 #[.agg #[.int .i64 a0_0, .slice A0_1 l0_1.length c0_1, .slice A0_2 l0_2.length c0_2, .slice A0_3 l0_3.length c0_3]] w fun e w' => e = .returned (.bool r) ∧ Below w.heap.size w w' := by
 have hu33 := Try.underlying33
 have HO0_1 := Aside0.mk (show Kd.V (Kd.int .i64) 3 w w.heap.size (fun k_ => ((P0_1_ k_ ∨ P0_2_ k_ ∨ P0_3_ k_) ∨ w.heap.size ≤ k_)) (.slice A0_1 l0_1.length c0_1) l0_1 from Kd.V_mono hs0_1 (fun k_ hk => .inl (.inl hk)))
 have HO0_2 := Aside0.mk (show Kd.V (Kd.int .i64) 3 w w.heap.size (fun k_ => ((P0_1_ k_ ∨ P0_2_ k_ ∨ P0_3_ k_) ∨ w.heap.size ≤ k_)) (.slice A0_2 l0_2.length c0_2) l0_2 from Kd.V_mono hs0_2 (fun k_ hk => .inl (.inr (.inl hk))))
 have HO0_3 := Aside0.mk (show Kd.V (Kd.int .i64) 3 w w.heap.size (fun k_ => ((P0_1_ k_ ∨ P0_2_ k_ ∨ P0_3_ k_) ∨ w.heap.size ≤ k_)) (.slice A0_3 l0_3.length c0_3) l0_3 from Kd.V_mono hs0_3 (fun k_ hk => .inl (.inr (.inr hk))))
 have HB := Aside0.mk (Below.refl w.heap.size w)
 have H : ((some (([l0_1, l0_2, l0_3] : List (List Int)) : List (List Int))).bind fun y193 => (impl_IsAllowed.l0 k y193 (y193.length : Int) 0 a0_0 l0_1 l0_2 l0_3)) = some r := h
 clear h
 obtain ⟨y193, hy193⟩ : ∃ y_ : List (List Int), y_ = (([l0_1, l0_2, l0_3] : List (List Int))) := ⟨_, rfl⟩
 replace H : (impl_IsAllowed.l0 k y193 (y193.length : Int) 0 a0_0 l0_1 l0_2 l0_3) = some r := by first | (rw [hy193]; with_reducible exact H) | (have H2_ := (Option.bind_some _ _).symm.trans H; rw [hy193]; with_reducible exact H2_) | (have H2_ := (Option.bind_some _ _).symm.trans H; with_reducible exact H2_) | with_reducible exact H | (rw [hy193]; exact H) | exact H
 have Ny193 := Aside0.mk hy193
 clear hy193
 have H' := Aside0.mk H
 clear H
 go_enter Try.func32, Try.ntmps32
 go_wp2_with (first | ((with_reducible refine gate_dst (N := 1) rfl ?_); refine bx (N := 1) (cs := #[.int .i64 a0_0, .slice A0_1 l0_1.length c0_1, .slice A0_2 l0_2.length c0_2, .slice A0_3 l0_3.length c0_3]) (t := 33) ?_; intro gb192 hg w2 hbox hb; replace HO0_1 := Aside0.mk (Kd.V_below (Kd.V_elderB (by (with_reducible repeat (first | apply Kd.V_alloc | apply Kd.V_drewN | apply Kd.V_drew)); exact HO0_1.out) gb192 (Nat.le_of_eq hg.symm)) hb); replace HO0_2 := Aside0.mk (Kd.V_below (Kd.V_elderB (by (with_reducible repeat (first | apply Kd.V_alloc | apply Kd.V_drewN | apply Kd.V_drew)); exact HO0_2.out) gb192 (Nat.le_of_eq hg.symm)) hb); replace HO0_3 := Aside0.mk (Kd.V_below (Kd.V_elderB (by (with_reducible repeat (first | apply Kd.V_alloc | apply Kd.V_drewN | apply Kd.V_drew)); exact HO0_3.out) gb192 (Nat.le_of_eq hg.symm)) hb); have BK192 := Aside0.mk (hbox); have GW192 := Aside0.mk ((by rw [hg]; exact (below_size sqh) : w.heap.size ≤ gb192)); have GE192 := Aside0.mk ((by rw [hg]; exact (below_size sqh) : w.heap.size ≤ gb192)); replace HB := Aside0.mk (below_step sqh hb); clear hb hbox hg; obtain ⟨hcz3_0, hcz3_1, hcz3_2, hcz3_3, hfz3_0, hfz3_1, hfz3_2, hfz3_3⟩ := sd4 BK192.out) | ((with_reducible refine gate_dst (N := 11) rfl ?_); refine Kd.N_lit (Kd.slice 3 (Kd.int .i64)) _ 28 ?hg (N' := 11) ?hd (xs := ([l0_1, l0_2, l0_3] : List (List Int))) (inner := [.slice A0_1 l0_1.length c0_1, .slice A0_2 l0_2.length c0_2, .slice A0_3 l0_3.length c0_3]) (ok := (fun k_ => ((P0_1_ k_ ∨ P0_2_ k_ ∨ P0_3_ k_) ∨ w.heap.size ≤ k_) ∧ k_ ≠ gb192)) (okp := (fun k_ => ((P0_1_ k_ ∨ P0_2_ k_ ∨ P0_3_ k_) ∨ w.heap.size ≤ k_) ∧ k_ ≠ gb192)) ?hr ?hp (fun _ hk => hk) ((show ∀ k_, w2.heap.size ≤ k_ → (fun k_ => ((P0_1_ k_ ∨ P0_2_ k_ ∨ P0_3_ k_) ∨ w.heap.size ≤ k_) ∧ k_ ≠ gb192) k_ from fun k_ hk => ⟨(.inr (Nat.le_trans (below_size sqh) hk)), Kd.freshB (bo BK192) k_ hk⟩) _ (Nat.le_refl _)) (Below.refl _ _) (Nat.le_refl _) (by simp) ?_; (case hd => rfl); (case hg => rfl); (case hr => first | (go_simp; done) | (go_simp; rfl)); (case hp => exact (Reps.one (show Kd.FK (Kd.slice 3 (Kd.int .i64)) _ _ l0_1 [.slice A0_1 l0_1.length c0_1] from (Kd.FK_slice_mk (Kd.V_reads' (Kd.V_mono (ok' := (fun k_ => ((P0_1_ k_ ∨ P0_2_ k_ ∨ P0_3_ k_) ∨ w.heap.size ≤ k_) ∧ k_ ≠ gb192)) (HO0_1.out) (fun k_ hk => ⟨hk.1, hk.2⟩))).2.1 (Kd.V_F (Kd.V_mono (ok' := (fun k_ => ((P0_1_ k_ ∨ P0_2_ k_ ∨ P0_3_ k_) ∨ w.heap.size ≤ k_) ∧ k_ ≠ gb192)) (HO0_1.out) (fun k_ hk => ⟨hk.1, hk.2⟩))))) (Reps.one (show Kd.FK (Kd.slice 3 (Kd.int .i64)) _ _ l0_2 [.slice A0_2 l0_2.length c0_2] from (Kd.FK_slice_mk (Kd.V_reads' (Kd.V_mono (ok' := (fun k_ => ((P0_1_ k_ ∨ P0_2_ k_ ∨ P0_3_ k_) ∨ w.heap.size ≤ k_) ∧ k_ ≠ gb192)) (HO0_2.out) (fun k_ hk => ⟨hk.1, hk.2⟩))).2.1 (Kd.V_F (Kd.V_mono (ok' := (fun k_ => ((P0_1_ k_ ∨ P0_2_ k_ ∨ P0_3_ k_) ∨ w.heap.size ≤ k_) ∧ k_ ≠ gb192)) (HO0_2.out) (fun k_ hk => ⟨hk.1, hk.2⟩))))) (Reps.one (show Kd.FK (Kd.slice 3 (Kd.int .i64)) _ _ l0_3 [.slice A0_3 l0_3.length c0_3] from (Kd.FK_slice_mk (Kd.V_reads' (Kd.V_mono (ok' := (fun k_ => ((P0_1_ k_ ∨ P0_2_ k_ ∨ P0_3_ k_) ∨ w.heap.size ≤ k_) ∧ k_ ≠ gb192)) (HO0_3.out) (fun k_ hk => ⟨hk.1, hk.2⟩))).2.1 (Kd.V_F (Kd.V_mono (ok' := (fun k_ => ((P0_1_ k_ ∨ P0_2_ k_ ∨ P0_3_ k_) ∨ w.heap.size ≤ k_) ∧ k_ ≠ gb192)) (HO0_3.out) (fun k_ hk => ⟨hk.1, hk.2⟩))))) (Reps.none _ _))))); intro v194 w4 ho5 hb hg_ hnew_; clear hg_ hnew_; (first | rw [← Ny193.out] at ho5 | (simp only [Int.reduceToNat] at ho5; rw [← Ny193.out] at ho5)); replace HO0_1 := Aside0.mk (Kd.V_elder' (by (with_reducible repeat (first | apply Kd.V_alloc | apply Kd.V_drewN | apply Kd.V_drew)); exact HO0_1.out) (Kd.N_base ho5) hb); replace HO0_2 := Aside0.mk (Kd.V_elder' (by (with_reducible repeat (first | apply Kd.V_alloc | apply Kd.V_drewN | apply Kd.V_drew)); exact HO0_2.out) (Kd.N_base ho5) hb); replace HO0_3 := Aside0.mk (Kd.V_elder' (by (with_reducible repeat (first | apply Kd.V_alloc | apply Kd.V_drewN | apply Kd.V_drew)); exact HO0_3.out) (Kd.N_base ho5) hb); have HO195 := Aside0.mk (Kd.N_lower ho5 (below_size sqh)); replace BK192 := Aside0.mk (blk_below (bo BK192) hb); replace HB := Aside0.mk (below_step sqh hb); clear hb ho5; obtain ⟨Ao6, co6, eo6⟩ := Kd.N_slice HO195.out; subst eo6))
 go_loopg [13] k (fun kq v13 w' => ∃ (x13_1 : Int), v13 = .int .i64 x13_1 ∧ Aside0 (impl_IsAllowed.l0 kq y193 (y193.length : Int) x13_1 a0_0 l0_1 l0_2 l0_3 = some r) ∧ Aside0 (kq ≤ k) ∧ Aside0 (Kd.N (Kd.slice 3 (Kd.int .i64)) 28 w' w.heap.size (fun k_ => ((P0_1_ k_ ∨ P0_2_ k_ ∨ P0_3_ k_) ∨ w.heap.size ≤ k_) ∧ k_ ≠ gb192) (.slice Ao6 y193.length co6) y193) ∧ Aside0 (Kd.V (Kd.int .i64) 3 w' w.heap.size (fun k_ => ((P0_1_ k_ ∨ P0_2_ k_ ∨ P0_3_ k_) ∨ w.heap.size ≤ k_) ∧ some k_ ≠ ((.slice Ao6 y193.length co6) : Value).ownBlock ∧ k_ ≠ gb192) (.slice A0_1 l0_1.length c0_1) l0_1) ∧ Aside0 (Kd.V (Kd.int .i64) 3 w' w.heap.size (fun k_ => ((P0_1_ k_ ∨ P0_2_ k_ ∨ P0_3_ k_) ∨ w.heap.size ≤ k_) ∧ some k_ ≠ ((.slice Ao6 y193.length co6) : Value).ownBlock ∧ k_ ≠ gb192) (.slice A0_2 l0_2.length c0_2) l0_2) ∧ Aside0 (Kd.V (Kd.int .i64) 3 w' w.heap.size (fun k_ => ((P0_1_ k_ ∨ P0_2_ k_ ∨ P0_3_ k_) ∨ w.heap.size ≤ k_) ∧ some k_ ≠ ((.slice Ao6 y193.length co6) : Value).ownBlock ∧ k_ ≠ gb192) (.slice A0_3 l0_3.length c0_3) l0_3) ∧ Aside0 (w'.heap[gb192]? = some (.cells #[.int .i64 a0_0, (.slice A0_1 l0_1.length c0_1), (.slice A0_2 l0_2.length c0_2), (.slice A0_3 l0_3.length c0_3)] 33 (0, 0))) ∧ Aside0 (Below w.heap.size w w'))
 case atStart => exact ⟨(0), sqr, H', ⟨Nat.le_refl _⟩, ⟨by (with_reducible repeat (first | apply Kd.N_alloc | apply Kd.N_drewN | apply Kd.N_drew)); exact HO195.out⟩, ⟨by (with_reducible repeat (first | apply Kd.V_alloc | apply Kd.V_drewN | apply Kd.V_drew)); exact Kd.V_mono HO0_1.out (fun _ hk => ⟨hk.1.1, ⟨hk.2, hk.1.2⟩⟩)⟩, ⟨by (with_reducible repeat (first | apply Kd.V_alloc | apply Kd.V_drewN | apply Kd.V_drew)); exact Kd.V_mono HO0_2.out (fun _ hk => ⟨hk.1.1, ⟨hk.2, hk.1.2⟩⟩)⟩, ⟨by (with_reducible repeat (first | apply Kd.V_alloc | apply Kd.V_drewN | apply Kd.V_drew)); exact Kd.V_mono HO0_3.out (fun _ hk => ⟨hk.1.1, ⟨hk.2, hk.1.2⟩⟩)⟩, ⟨sqb BK192.out⟩, ⟨sqh⟩⟩
 case round =>
  clear H'; try clear p2; try clear c3; try clear hcz3_0; try clear hcz3_1; try clear hcz3_2; try clear hcz3_3; try clear hfz3_0; try clear hfz3_1; try clear hfz3_2; try clear hfz3_3
  obtain ⟨x13_1, rfl, HA, HK1, HO_11, HO_193001, HO_193002, HO_193003, BK192, HB⟩ := hrel
  cases gk with
  | zero => exact absurd HA.out (by simp [impl_IsAllowed.l0])
  | succ k1 =>
   have H := HA.out
   clear HA
   simp only [impl_IsAllowed.l0] at H
   by_cases c7 : x13_1 < (y193.length : Int)
   ·rw [if_pos c7] at H
    have c7b0 : decide (x13_1 < (y193.length : Int)) = true := decide_eq_true c7
    clear c7
    by_cases c8 : 0 ≤ x13_1
    ·rw [if_pos c8] at H
     have c8b0 : decide (0 ≤ x13_1) = true := decide_eq_true c8
     clear c8
     by_cases c9 : x13_1 < (y193.length : Int)
     ·rw [if_pos c9] at H
      have c9b0 : decide (x13_1 < (y193.length : Int)) = true := decide_eq_true c9
      clear c9
      by_cases c10 : ((rd_L1 y193 x13_1).length : Int) > 8
      ·rw [if_pos c10] at H
       have c10b0 : decide (8 < ((rd_L1 y193 x13_1).length : Int)) = true := decide_eq_true c10
       have c10b1 : decide (8 < (rd_L1 y193 x13_1).length) = true := decide_eq_true (by omega)
       clear c10
       obtain rfl := Option.some.inj H
       have p196 : 0 ≤ (x13_1 : Int) := of_decide_eq_true sqs
       have q196 : x13_1 < (y193.length : Int) := of_decide_eq_true sqs
       obtain ⟨ad196, A196_0, c196_0, e196, hx196_0, hl196_0, hi196_0⟩ := at_L1 (Kd.N_reads' HO_11.out).2.2 x13_1 p196 q196
       cases e196
       obtain ⟨ce196, hce196, hMe196, hcc196⟩ := Kd.N_get HO_11.out [] x13_1 p196 (by first | exact q196 | exact of_decide_eq_true sqs | (have e_ := (Kd.N_reads' HO_11.out).1; omega))
       obtain ⟨ua196_0, uc196_0, rfl, ul196_0, ge196_0⟩ := Kd.FK_slice_open hMe196
       have hv196_0 := hcc196 0 _ rfl
       rw [Nat.add_zero, show ((Kd.slice 3 (Kd.int .i64))).sz = 1 from rfl, Nat.mul_one] at hv196_0
       replace hv196_0 := Option.some.inj (hv196_0.symm.trans hx196_0)
       injection hv196_0 with hva_ hvn_ hvc_
       rw [hva_] at ge196_0
       rw [hvc_] at ul196_0
       have HL196_0 := Aside0.mk (show Kd.V (Kd.int .i64) 3 _ w.heap.size _ _ (rd_L1 y193 x13_1) from Kd.V_mk ul196_0 ge196_0)
       clear hva_ hvn_ hvc_ ge196_0 ul196_0; clear hcc196 hce196
       have HR196_0 := Aside0.mk hi196_0
       have HC196_0 := Aside0.mk hl196_0
       clear hi196_0 hl196_0
       replace p196 := eq_true p196
       replace q196 := eq_true q196
       go_wp2
       go_ret
       exact ⟨sqe, sqh⟩
      ·rw [if_neg c10] at H
       have c10b0 : decide (8 < ((rd_L1 y193 x13_1).length : Int)) = false := decide_eq_false c10
       have c10b1 : decide (8 < (rd_L1 y193 x13_1).length) = false := decide_eq_false (by omega)
       clear c10
       obtain ⟨t197, A11, H⟩ := bA H
       by_cases c12 : t197 = true
       ·subst c12
        replace H := iT H
        have H' := Aside0.mk H
        clear H
        have p196 : 0 ≤ (x13_1 : Int) := of_decide_eq_true sqs
        have q196 : x13_1 < (y193.length : Int) := of_decide_eq_true sqs
        obtain ⟨ad196, A196_0, c196_0, e196, hx196_0, hl196_0, hi196_0⟩ := at_L1 (Kd.N_reads' HO_11.out).2.2 x13_1 p196 q196
        cases e196
        obtain ⟨ce196, hce196, hMe196, hcc196⟩ := Kd.N_get HO_11.out [] x13_1 p196 (by first | exact q196 | exact of_decide_eq_true sqs | (have e_ := (Kd.N_reads' HO_11.out).1; omega))
        obtain ⟨ua196_0, uc196_0, rfl, ul196_0, ge196_0⟩ := Kd.FK_slice_open hMe196
        have hv196_0 := hcc196 0 _ rfl
        rw [Nat.add_zero, show ((Kd.slice 3 (Kd.int .i64))).sz = 1 from rfl, Nat.mul_one] at hv196_0
        replace hv196_0 := Option.some.inj (hv196_0.symm.trans hx196_0)
        injection hv196_0 with hva_ hvn_ hvc_
        rw [hva_] at ge196_0
        rw [hvc_] at ul196_0
        have HL196_0 := Aside0.mk (show Kd.V (Kd.int .i64) 3 _ w.heap.size _ _ (rd_L1 y193 x13_1) from Kd.V_mk ul196_0 ge196_0)
        clear hva_ hvn_ hvc_ ge196_0 ul196_0; clear hcc196 hce196
        have HR196_0 := Aside0.mk hi196_0
        have HC196_0 := Aside0.mk hl196_0
        clear hi196_0 hl196_0
        replace p196 := eq_true p196
        replace q196 := eq_true q196
        go_wp2_with (first | (go_at_call 79; (with_reducible refine (impl_isAscending.calls k1 _ _ (rd_L1 y193 x13_1) 0 99 true _ ?side1 ?side2 A11.out).mono ?_); (case side1 => repeat (first | exact (by repeat (first | (with_reducible exact HR196_0.out) | (with_reducible refine Kd.C_alloc ?_ _) | (with_reducible refine Kd.C_drewN ?_ _) | (with_reducible refine Kd.C_drew ?_) | exact HR196_0.out)) | (with_reducible refine Kd.C_alloc ?_ _) | (with_reducible refine Kd.C_drewN ?_ _) | (with_reducible refine Kd.C_drew ?_))); (case side2 => exact HC196_0.out); rintro e w' ⟨rfl, ⟨nd, rfl⟩⟩))
        go_roundg k1
        case measure => have := HK1.out; omega
        case rel => exact ⟨(wrap64 (x13_1 + 1)), sqr, H', ⟨by have := HK1.out; omega⟩, ⟨by (with_reducible repeat (first | apply Kd.N_alloc | apply Kd.N_drewN | apply Kd.N_drew)); exact HO_11.out⟩, ⟨by (with_reducible repeat (first | apply Kd.V_alloc | apply Kd.V_drewN | apply Kd.V_drew)); exact HO_193001.out⟩, ⟨by (with_reducible repeat (first | apply Kd.V_alloc | apply Kd.V_drewN | apply Kd.V_drew)); exact HO_193002.out⟩, ⟨by (with_reducible repeat (first | apply Kd.V_alloc | apply Kd.V_drewN | apply Kd.V_drew)); exact HO_193003.out⟩, ⟨sqb BK192.out⟩, ⟨sqh⟩⟩
       ·replace c12 := Bool.eq_false_iff.mpr c12
        subst c12
        replace H := iF H
        obtain rfl := Option.some.inj H
        have p196 : 0 ≤ (x13_1 : Int) := of_decide_eq_true sqs
        have q196 : x13_1 < (y193.length : Int) := of_decide_eq_true sqs
        obtain ⟨ad196, A196_0, c196_0, e196, hx196_0, hl196_0, hi196_0⟩ := at_L1 (Kd.N_reads' HO_11.out).2.2 x13_1 p196 q196
        cases e196
        obtain ⟨ce196, hce196, hMe196, hcc196⟩ := Kd.N_get HO_11.out [] x13_1 p196 (by first | exact q196 | exact of_decide_eq_true sqs | (have e_ := (Kd.N_reads' HO_11.out).1; omega))
        obtain ⟨ua196_0, uc196_0, rfl, ul196_0, ge196_0⟩ := Kd.FK_slice_open hMe196
        have hv196_0 := hcc196 0 _ rfl
        rw [Nat.add_zero, show ((Kd.slice 3 (Kd.int .i64))).sz = 1 from rfl, Nat.mul_one] at hv196_0
        replace hv196_0 := Option.some.inj (hv196_0.symm.trans hx196_0)
        injection hv196_0 with hva_ hvn_ hvc_
        rw [hva_] at ge196_0
        rw [hvc_] at ul196_0
        have HL196_0 := Aside0.mk (show Kd.V (Kd.int .i64) 3 _ w.heap.size _ _ (rd_L1 y193 x13_1) from Kd.V_mk ul196_0 ge196_0)
        clear hva_ hvn_ hvc_ ge196_0 ul196_0; clear hcc196 hce196
        have HR196_0 := Aside0.mk hi196_0
        have HC196_0 := Aside0.mk hl196_0
        clear hi196_0 hl196_0
        replace p196 := eq_true p196
        replace q196 := eq_true q196
        go_wp2_with (first | (go_at_call 79; (with_reducible refine (impl_isAscending.calls k1 _ _ (rd_L1 y193 x13_1) 0 99 false _ ?side1 ?side2 A11.out).mono ?_); (case side1 => repeat (first | exact (by repeat (first | (with_reducible exact HR196_0.out) | (with_reducible refine Kd.C_alloc ?_ _) | (with_reducible refine Kd.C_drewN ?_ _) | (with_reducible refine Kd.C_drew ?_) | exact HR196_0.out)) | (with_reducible refine Kd.C_alloc ?_ _) | (with_reducible refine Kd.C_drewN ?_ _) | (with_reducible refine Kd.C_drew ?_))); (case side2 => exact HC196_0.out); rintro e w' ⟨rfl, ⟨nd, rfl⟩⟩))
        go_ret
        exact ⟨sqe, sqh⟩
     ·rw [if_neg c9] at H
      exact absurd H (by simp)
    ·rw [if_neg c8] at H
     exact absurd H (by simp)
   ·rw [if_neg c7] at H
    have c7b0 : decide (x13_1 < (y193.length : Int)) = false := decide_eq_false c7
    clear c7
    by_cases c13 : a0_0 ≥ 0
    ·rw [if_pos c13] at H
     have c13b0 : decide (0 ≤ a0_0) = true := decide_eq_true c13
     clear c13
     obtain ⟨t198, A14, H⟩ := bA H
     by_cases c15 : t198 = true
     ·subst c15
      replace H := iT H
      obtain ⟨t199, A16, H⟩ := bA H
      by_cases c17 : t199 = true
      ·subst c17
       replace H := iT H
       obtain ⟨t200, A18, H⟩ := bA H
       obtain rfl := Option.some.inj H
       obtain ⟨hcz19_0, hcz19_1, hcz19_2, hcz19_3, hfz19_0, hfz19_1, hfz19_2, hfz19_3⟩ := sd4 BK192.out
       go_wp2_with (first | (go_at_call 80; (with_reducible refine (impl_areApart.calls _ _ l0_1 _ _ l0_2 true _ ?side1 ?side2 ?side3 ?side4 A14.out).mono ?_); (case side1 => repeat (first | exact (Kd.V_reads' HO_193001.out).2.2 | (with_reducible refine Kd.C_alloc ?_ _) | (with_reducible refine Kd.C_drewN ?_ _) | (with_reducible refine Kd.C_drew ?_))); (case side2 => exact (Kd.V_reads' HO_193001.out).2.1); (case side3 => repeat (first | exact (Kd.V_reads' HO_193002.out).2.2 | (with_reducible refine Kd.C_alloc ?_ _) | (with_reducible refine Kd.C_drewN ?_ _) | (with_reducible refine Kd.C_drew ?_))); (case side4 => exact (Kd.V_reads' HO_193002.out).2.1); rintro e w20 ⟨rfl, hb⟩; replace HO_11 := Aside0.mk (Kd.N_below z32_3 hb); replace HO_193001 := Aside0.mk (Kd.V_below z32_2 hb); replace HO_193002 := Aside0.mk (Kd.V_below z32_1 hb); replace HO_193003 := Aside0.mk (Kd.V_below z32_0 hb); replace BK192 := Aside0.mk (blk_below (bo BK192) hb); replace HB := Aside0.mk (below_step sqh hb); (try clear hb); obtain ⟨hcz21_0, hcz21_1, hcz21_2, hcz21_3, hfz21_0, hfz21_1, hfz21_2, hfz21_3⟩ := sd4 BK192.out) | (go_at_call 80; (with_reducible refine (impl_areApart.calls _ _ l0_1 _ _ l0_3 true _ ?side1 ?side2 ?side3 ?side4 A16.out).mono ?_); (case side1 => repeat (first | exact (Kd.V_reads' HO_193001.out).2.2 | (with_reducible refine Kd.C_alloc ?_ _) | (with_reducible refine Kd.C_drewN ?_ _) | (with_reducible refine Kd.C_drew ?_))); (case side2 => exact (Kd.V_reads' HO_193001.out).2.1); (case side3 => repeat (first | exact (Kd.V_reads' HO_193003.out).2.2 | (with_reducible refine Kd.C_alloc ?_ _) | (with_reducible refine Kd.C_drewN ?_ _) | (with_reducible refine Kd.C_drew ?_))); (case side4 => exact (Kd.V_reads' HO_193003.out).2.1); rintro e w22 ⟨rfl, hb⟩; replace HO_11 := Aside0.mk (Kd.N_below z32_3 hb); replace HO_193001 := Aside0.mk (Kd.V_below z32_2 hb); replace HO_193002 := Aside0.mk (Kd.V_below z32_1 hb); replace HO_193003 := Aside0.mk (Kd.V_below z32_0 hb); replace BK192 := Aside0.mk (blk_below (bo BK192) hb); replace HB := Aside0.mk (below_step sqh hb); (try clear hb); obtain ⟨hcz23_0, hcz23_1, hcz23_2, hcz23_3, hfz23_0, hfz23_1, hfz23_2, hfz23_3⟩ := sd4 BK192.out) | (go_at_call 80; (with_reducible refine (impl_areApart.calls _ _ l0_2 _ _ l0_3 t200 _ ?side1 ?side2 ?side3 ?side4 A18.out).mono ?_); (case side1 => repeat (first | exact (Kd.V_reads' HO_193002.out).2.2 | (with_reducible refine Kd.C_alloc ?_ _) | (with_reducible refine Kd.C_drewN ?_ _) | (with_reducible refine Kd.C_drew ?_))); (case side2 => exact (Kd.V_reads' HO_193002.out).2.1); (case side3 => repeat (first | exact (Kd.V_reads' HO_193003.out).2.2 | (with_reducible refine Kd.C_alloc ?_ _) | (with_reducible refine Kd.C_drewN ?_ _) | (with_reducible refine Kd.C_drew ?_))); (case side4 => exact (Kd.V_reads' HO_193003.out).2.1); rintro e w24 ⟨rfl, hb⟩; replace HO_11 := Aside0.mk (Kd.N_below z32_3 hb); replace HO_193001 := Aside0.mk (Kd.V_below z32_2 hb); replace HO_193002 := Aside0.mk (Kd.V_below z32_1 hb); replace HO_193003 := Aside0.mk (Kd.V_below z32_0 hb); replace BK192 := Aside0.mk (blk_below (bo BK192) hb); replace HB := Aside0.mk (below_step sqh hb); (try clear hb)))
       go_ret
       exact ⟨sqe, sqh⟩
      ·replace c17 := Bool.eq_false_iff.mpr c17
       subst c17
       replace H := iF H
       obtain rfl := Option.some.inj H
       obtain ⟨hcz25_0, hcz25_1, hcz25_2, hcz25_3, hfz25_0, hfz25_1, hfz25_2, hfz25_3⟩ := sd4 BK192.out
       go_wp2_with (first | (go_at_call 80; (with_reducible refine (impl_areApart.calls _ _ l0_1 _ _ l0_2 true _ ?side1 ?side2 ?side3 ?side4 A14.out).mono ?_); (case side1 => repeat (first | exact (Kd.V_reads' HO_193001.out).2.2 | (with_reducible refine Kd.C_alloc ?_ _) | (with_reducible refine Kd.C_drewN ?_ _) | (with_reducible refine Kd.C_drew ?_))); (case side2 => exact (Kd.V_reads' HO_193001.out).2.1); (case side3 => repeat (first | exact (Kd.V_reads' HO_193002.out).2.2 | (with_reducible refine Kd.C_alloc ?_ _) | (with_reducible refine Kd.C_drewN ?_ _) | (with_reducible refine Kd.C_drew ?_))); (case side4 => exact (Kd.V_reads' HO_193002.out).2.1); rintro e w26 ⟨rfl, hb⟩; replace HO_11 := Aside0.mk (Kd.N_below z32_3 hb); replace HO_193001 := Aside0.mk (Kd.V_below z32_2 hb); replace HO_193002 := Aside0.mk (Kd.V_below z32_1 hb); replace HO_193003 := Aside0.mk (Kd.V_below z32_0 hb); replace BK192 := Aside0.mk (blk_below (bo BK192) hb); replace HB := Aside0.mk (below_step sqh hb); (try clear hb); obtain ⟨hcz27_0, hcz27_1, hcz27_2, hcz27_3, hfz27_0, hfz27_1, hfz27_2, hfz27_3⟩ := sd4 BK192.out) | (go_at_call 80; (with_reducible refine (impl_areApart.calls _ _ l0_1 _ _ l0_3 false _ ?side1 ?side2 ?side3 ?side4 A16.out).mono ?_); (case side1 => repeat (first | exact (Kd.V_reads' HO_193001.out).2.2 | (with_reducible refine Kd.C_alloc ?_ _) | (with_reducible refine Kd.C_drewN ?_ _) | (with_reducible refine Kd.C_drew ?_))); (case side2 => exact (Kd.V_reads' HO_193001.out).2.1); (case side3 => repeat (first | exact (Kd.V_reads' HO_193003.out).2.2 | (with_reducible refine Kd.C_alloc ?_ _) | (with_reducible refine Kd.C_drewN ?_ _) | (with_reducible refine Kd.C_drew ?_))); (case side4 => exact (Kd.V_reads' HO_193003.out).2.1); rintro e w28 ⟨rfl, hb⟩; replace HO_11 := Aside0.mk (Kd.N_below z32_3 hb); replace HO_193001 := Aside0.mk (Kd.V_below z32_2 hb); replace HO_193002 := Aside0.mk (Kd.V_below z32_1 hb); replace HO_193003 := Aside0.mk (Kd.V_below z32_0 hb); replace BK192 := Aside0.mk (blk_below (bo BK192) hb); replace HB := Aside0.mk (below_step sqh hb); (try clear hb)))
       go_ret
       exact ⟨sqe, sqh⟩
     ·replace c15 := Bool.eq_false_iff.mpr c15
      subst c15
      replace H := iF H
      obtain rfl := Option.some.inj H
      obtain ⟨hcz29_0, hcz29_1, hcz29_2, hcz29_3, hfz29_0, hfz29_1, hfz29_2, hfz29_3⟩ := sd4 BK192.out
      go_wp2_with (first | (go_at_call 80; (with_reducible refine (impl_areApart.calls _ _ l0_1 _ _ l0_2 false _ ?side1 ?side2 ?side3 ?side4 A14.out).mono ?_); (case side1 => repeat (first | exact (Kd.V_reads' HO_193001.out).2.2 | (with_reducible refine Kd.C_alloc ?_ _) | (with_reducible refine Kd.C_drewN ?_ _) | (with_reducible refine Kd.C_drew ?_))); (case side2 => exact (Kd.V_reads' HO_193001.out).2.1); (case side3 => repeat (first | exact (Kd.V_reads' HO_193002.out).2.2 | (with_reducible refine Kd.C_alloc ?_ _) | (with_reducible refine Kd.C_drewN ?_ _) | (with_reducible refine Kd.C_drew ?_))); (case side4 => exact (Kd.V_reads' HO_193002.out).2.1); rintro e w30 ⟨rfl, hb⟩; replace HO_11 := Aside0.mk (Kd.N_below z32_3 hb); replace HO_193001 := Aside0.mk (Kd.V_below z32_2 hb); replace HO_193002 := Aside0.mk (Kd.V_below z32_1 hb); replace HO_193003 := Aside0.mk (Kd.V_below z32_0 hb); replace BK192 := Aside0.mk (blk_below (bo BK192) hb); replace HB := Aside0.mk (below_step sqh hb); (try clear hb)))
      go_ret
      exact ⟨sqe, sqh⟩
    ·rw [if_neg c13] at H
     have c13b0 : decide (0 ≤ a0_0) = false := decide_eq_false c13
     clear c13
     obtain rfl := Option.some.inj H
     obtain ⟨hcz31_0, hcz31_1, hcz31_2, hcz31_3, hfz31_0, hfz31_1, hfz31_2, hfz31_3⟩ := sd4 BK192.out
     go_wp2
     go_ret
     exact ⟨sqe, sqh⟩

end Go.Proofs.Ytlmhemcpkmjkiaa.XFnExactReplaceAllowed
