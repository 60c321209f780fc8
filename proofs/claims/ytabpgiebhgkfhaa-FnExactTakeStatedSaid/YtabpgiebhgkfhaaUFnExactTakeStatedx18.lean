/- Written by this session's own program (wip/xprint, which runs over the kit's print): what the functions that the law reaches come to, each proved; and the law's row. Conditions: none. -/
import Derived.Test.YtabpgiebhgkfhaaUFnExactTakeStatedSq
import Derived.Test.YtabpgiebhgkfhaaUFnExactTakeStatedx0
import Derived.Test.YtabpgiebhgkfhaaUFnExactTakeStatedx13
import Derived.Test.YtabpgiebhgkfhaaUFnExactTakeStatedx17
namespace Go.Proofs.Ytabpgiebhgkfhaa.XFnExactTakeStated
open Go.RowKit Go.Proofs.YtabpgiebhgkfhaaW.PrintWords Go.Proofs.YtabpgiebhgkfhaaW.PrintLast Go.Proofs.YtabpgiebhgkfhaaW.PrintMore Go.Proofs.YtabpgiebhgkfhaaSq
attribute [local go_sem] max2_int min2_int max_two min_two max_three min_three max_four min_four   -- for this text's walks alone
set_option linter.unusedVariables false
set_option linter.unusedSimpArgs false

/-! ### impl_TakeStated: function 22 -/
def impl_TakeStated.l0 : Nat → List (S48) → List (S55) → Int → List (S76) → Int → Int → Option ((List (S55)) × Int)
 | 0, _, _, _, _, _, _ => none
 | k + 1, x0, x8, x9, x16, x17, x18 => if x18 < x17 then (if 0 ≤ x18 then (if x18 < (x16.length : Int) then ((impl_IsBelieved.f k x0 ((rd_T76 x16 x18).f0.f0) ((rd_T76 x16 x18).f0.f1) ((rd_T76 x16 x18).f0.f2) ((rd_T76 x16 x18).f0.f3) ((rd_T76 x16 x18).f0.f4) ((rd_T76 x16 x18).f0.f5) ((rd_T76 x16 x18).f1)).bind fun t421 => (if t421 = true then ((impl_PutFact.f k x8 ((rd_T76 x16 x18).f0.f0) ((rd_T76 x16 x18).f0.f1) ((rd_T76 x16 x18).f0.f2) ((rd_T76 x16 x18).f0.f3) ((rd_T76 x16 x18).f0.f4) ((rd_T76 x16 x18).f0.f5)).bind fun bt422 => (if bt422.2 = true then (impl_TakeStated.l0 k x0 bt422.1 (wrap64 (x9 + 1)) x16 x17 (wrap64 (x18 + 1))) else (impl_TakeStated.l0 k x0 x8 x9 x16 x17 (wrap64 (x18 + 1))))) else (impl_TakeStated.l0 k x0 x8 x9 x16 x17 (wrap64 (x18 + 1))))) else (none)) else (none)) else (some (x8, x9))
def impl_TakeStated.f (k : Nat) (l0 : List (S48)) (l1 : List (S55)) (l2 : List (S76)) : Option ((List (S55)) × Int) := (impl_copyFacts.f l1).bind fun t416 => (impl_TakeStated.l0 k l0 t416 0 l2 (l2.length : Int) 0)
theorem z22_0 {Q : Prop} (g : Q := by (with_reducible repeat (first | refine blk_drewN ?_ _ | refine blk_drew ?_ | refine blk_alloc ?_ _)); refine blk_put (cs := #[.int .i64 ((rd_T76 l2 x18_1).f0.f0), .int .i64 ((rd_T76 l2 x18_1).f0.f1), .int .i64 ((rd_T76 l2 x18_1).f0.f2), .int .i64 ((rd_T76 l2 x18_1).f0.f3), .int .i64 ((rd_T76 l2 x18_1).f0.f4), .int .i64 ((rd_T76 l2 x18_1).f0.f5), .int .i64 0]) ?_ 6 _ rfl; (with_reducible repeat (first | refine blk_drewN ?_ _ | refine blk_drew ?_ | refine blk_alloc ?_ _)); refine blk_put (cs := #[.int .i64 ((rd_T76 l2 x18_1).f0.f0), .int .i64 ((rd_T76 l2 x18_1).f0.f1), .int .i64 ((rd_T76 l2 x18_1).f0.f2), .int .i64 ((rd_T76 l2 x18_1).f0.f3), .int .i64 ((rd_T76 l2 x18_1).f0.f4), .int .i64 0, .int .i64 0]) ?_ 5 _ rfl; (with_reducible repeat (first | refine blk_drewN ?_ _ | refine blk_drew ?_ | refine blk_alloc ?_ _)); refine blk_put (cs := #[.int .i64 ((rd_T76 l2 x18_1).f0.f0), .int .i64 ((rd_T76 l2 x18_1).f0.f1), .int .i64 ((rd_T76 l2 x18_1).f0.f2), .int .i64 ((rd_T76 l2 x18_1).f0.f3), .int .i64 0, .int .i64 0, .int .i64 0]) ?_ 4 _ rfl; (with_reducible repeat (first | refine blk_drewN ?_ _ | refine blk_drew ?_ | refine blk_alloc ?_ _)); refine blk_put (cs := #[.int .i64 ((rd_T76 l2 x18_1).f0.f0), .int .i64 ((rd_T76 l2 x18_1).f0.f1), .int .i64 ((rd_T76 l2 x18_1).f0.f2), .int .i64 0, .int .i64 0, .int .i64 0, .int .i64 0]) ?_ 3 _ rfl; (with_reducible repeat (first | refine blk_drewN ?_ _ | refine blk_drew ?_ | refine blk_alloc ?_ _)); refine blk_put (cs := #[.int .i64 ((rd_T76 l2 x18_1).f0.f0), .int .i64 ((rd_T76 l2 x18_1).f0.f1), .int .i64 0, .int .i64 0, .int .i64 0, .int .i64 0, .int .i64 0]) ?_ 2 _ rfl; (with_reducible repeat (first | refine blk_drewN ?_ _ | refine blk_drew ?_ | refine blk_alloc ?_ _)); refine blk_put (cs := #[.int .i64 ((rd_T76 l2 x18_1).f0.f0), .int .i64 0, .int .i64 0, .int .i64 0, .int .i64 0, .int .i64 0, .int .i64 0]) ?_ 1 _ rfl; (with_reducible repeat (first | refine blk_drewN ?_ _ | refine blk_drew ?_ | refine blk_alloc ?_ _)); refine blk_put (cs := #[.int .i64 0, .int .i64 0, .int .i64 0, .int .i64 0, .int .i64 0, .int .i64 0, .int .i64 0]) ?_ 0 _ rfl; (with_reducible repeat (first | refine blk_drewN ?_ _ | refine blk_drew ?_ | refine blk_alloc ?_ _)); exact BK420.out) : Q := g
theorem z22_1 {Q : Prop} (g : Q := by (with_reducible repeat (first | apply Kd.R_alloc | apply Kd.R_drewN | apply Kd.R_drew)); exact (Kd.R_mono (Kd.R_far (p := ⟨gb420, 6, none⟩) (Kd.R_far (p := ⟨gb420, 5, none⟩) (Kd.R_far (p := ⟨gb420, 4, none⟩) (Kd.R_far (p := ⟨gb420, 3, none⟩) (Kd.R_far (p := ⟨gb420, 2, none⟩) (Kd.R_far (p := ⟨gb420, 1, none⟩) (Kd.R_far (p := ⟨gb420, 0, none⟩) (Kd.R_types HO_8.out BK420.out (by decide)) (fun _ hk => hk.2) (.int .i64 ((rd_T76 l2 x18_1).f0.f0))) (fun _ hk => hk.2) (.int .i64 ((rd_T76 l2 x18_1).f0.f1))) (fun _ hk => hk.2) (.int .i64 ((rd_T76 l2 x18_1).f0.f2))) (fun _ hk => hk.2) (.int .i64 ((rd_T76 l2 x18_1).f0.f3))) (fun _ hk => hk.2) (.int .i64 ((rd_T76 l2 x18_1).f0.f4))) (fun _ hk => hk.2) (.int .i64 ((rd_T76 l2 x18_1).f0.f5))) (fun _ hk => hk.2) (.int .i64 ((rd_T76 l2 x18_1).f1))) (fun _ h_ => h_.1))) : Q := g
set_option maxHeartbeats 8000000 in
set_option maxRecDepth 100000 in
theorem impl_TakeStated.calls (k : Nat) (A0 : Option Addr) (c0 : Nat) (l0 : List (S48)) (A1 : Option Addr) (c1 : Nat) (l1 : List (S55)) (A2 : Option Addr) (c2 : Nat) (l2 : List (S76)) (r1 : List (S55)) (r2 : Int) (w : World) (hr0 : Kd.C k48 w A0 l0.length l0) (hc0 : l0.length ≤ c0) (hr1 : Kd.C k55 w A1 l1.length l1) (hc1 : l1.length ≤ c1) (hr2 : Kd.C k76 w A2 l2.length l2) (hc2 : l2.length ≤ c2) (h : impl_TakeStated.f k l0 l1 l2 = some (r1, r2)) :
  Calls Try.prog 22 #[.slice A0 l0.length c0, .slice A1 l1.length c1, .slice A2 l2.length c2] w fun e w' => ∃ v0_ : Value, e = .returned (.tuple #[v0_, .int .i64 r2]) ∧ Kd.R k55 55 w' w.heap.size (fun _ => True) v0_ r1 ∧ Below w.heap.size w w' := by
 have hu76 := Try.underlying76
 have hu55 := Try.underlying55
 have HR0 := Aside0.mk hr0
 have HC0 := Aside0.mk hc0
 clear hr0 hc0
 have HR1 := Aside0.mk hr1
 have HC1 := Aside0.mk hc1
 clear hr1 hc1
 have HR2 := Aside0.mk hr2
 have HC2 := Aside0.mk hc2
 clear hr2 hc2
 have HB := Aside0.mk (Below.refl w.heap.size w)
 have H : ((impl_copyFacts.f l1).bind fun t416 => (impl_TakeStated.l0 k l0 t416 0 l2 (l2.length : Int) 0)) = some (r1, r2) := h
 clear h
 obtain ⟨t416, A4, H⟩ := bA H
 have H' := Aside0.mk H
 clear H
 go_enter Try.func22, Try.ntmps22
 go_wp2_with (first | ((with_reducible refine gate_callee (f := 67) rfl ?_); refine goesL_ (some 15) rfl rfl Try.func67 k_ rfl #[.slice A1 l1.length c1] rfl m_ ?_; (with_reducible refine (impl_copyFacts.calls _ _ l1 t416 _ ?side1 ?side2 A4.out).mono ?_); (case side1 => repeat (first | exact HR1.out | (with_reducible refine Kd.C_alloc ?_ _) | (with_reducible refine Kd.C_drewN ?_ _) | (with_reducible refine Kd.C_drew ?_))); (case side2 => exact HC1.out); rintro e w5 ⟨v417, rfl, ho0, hb⟩; refine ⟨_, rfl, ?_⟩; have HO418 := Aside0.mk (Kd.R_lower ho0 (below_size h_)); replace HB := Aside0.mk (below_step h_ hb); (try clear hb); (try clear ho0)))
 go_loopg [8, 9, 18] k (fun kq v8 v9 v18 w' => ∃ (x8_1 : List (S55)) (x9_1 : Int) (x18_1 : Int), v9 = .int .i64 x9_1 ∧ v18 = .int .i64 x18_1 ∧ Aside0 (impl_TakeStated.l0 kq l0 x8_1 x9_1 l2 (l2.length : Int) x18_1 = some (r1, r2)) ∧ Aside0 (kq ≤ k) ∧ Aside0 (Kd.R k55 55 w' w.heap.size (fun _ => True) v8 x8_1) ∧ Aside0 (Below w.heap.size w w'))
 case atStart => exact ⟨(t416), (0), (0), r_, r_, H', ⟨Nat.le_refl _⟩, ⟨by (with_reducible repeat (first | apply Kd.R_alloc | apply Kd.R_drewN | apply Kd.R_drew)); exact HO418.out⟩, ⟨h_⟩⟩
 case round =>
  clear H'; try clear c1; try clear c2; try clear p2
  obtain ⟨x8_1, x9_1, x18_1, rfl, rfl, HA, HK1, HO_8, HB⟩ := hrel
  cases gk with
  | zero => exact absurd HA.out (by simp [impl_TakeStated.l0])
  | succ k1 =>
   have H := HA.out
   clear HA
   simp only [impl_TakeStated.l0] at H
   by_cases c6 : x18_1 < (l2.length : Int)
   ·rw [if_pos c6] at H
    have c6b0 : decide (x18_1 < (l2.length : Int)) = true := decide_eq_true c6
    clear c6
    by_cases c7 : 0 ≤ x18_1
    ·rw [if_pos c7] at H
     have c7b0 : decide (0 ≤ x18_1) = true := decide_eq_true c7
     clear c7
     by_cases c8 : x18_1 < (l2.length : Int)
     ·rw [if_pos c8] at H
      have c8b0 : decide (x18_1 < (l2.length : Int)) = true := decide_eq_true c8
      clear c8
      obtain ⟨t421, A9, H⟩ := bA H
      by_cases c10 : t421 = true
      ·subst c10
       replace H := iT H
       obtain ⟨⟨t422, t425⟩, A11, H⟩ := bA H
       dsimp only at H
       by_cases c12 : t425 = true
       ·subst c12
        replace H := iT H
        have H' := Aside0.mk H
        clear H
        have p419 : 0 ≤ (x18_1 : Int) := of_decide_eq_true s_
        have q419 : x18_1 < (l2.length : Int) := of_decide_eq_true s_
        obtain ⟨ad419, e419, hx419_0, hx419_1, hx419_2, hx419_3, hx419_4, hx419_5, hx419_6⟩ := at_T76 HR2.out x18_1 p419 q419
        cases e419
        replace hx419_0 := cl HB hx419_0; replace hx419_1 := cl HB hx419_1; replace hx419_2 := cl HB hx419_2; replace hx419_3 := cl HB hx419_3; replace hx419_4 := cl HB hx419_4; replace hx419_5 := cl HB hx419_5; replace hx419_6 := cl HB hx419_6
        replace p419 := eq_true p419
        replace q419 := eq_true q419
        go_wp2_with (first | ((with_reducible refine gate_dst (N := 11) rfl ?_); refine bx (N := 11) (cs := #[.int .i64 0, .int .i64 0, .int .i64 0, .int .i64 0, .int .i64 0, .int .i64 0, .int .i64 0]) (t := 76) ?_; intro gb420 hg w13 hbox hb; replace HO_8 := Aside0.mk (Kd.R_below (q_ HO_8.out) hb); have BK420 := Aside0.mk (hbox); have GW420 := Aside0.mk ((by rw [hg]; exact (below_size h_) : w.heap.size ≤ gb420)); have GE420 := Aside0.mk ((by rw [hg]; exact (below_size h_) : w.heap.size ≤ gb420)); replace HB := Aside0.mk (below_step h_ hb); clear hb hbox hg; obtain ⟨hcz14_0, hcz14_1, hcz14_2, hcz14_3, hcz14_4, hcz14_5, hcz14_6, hfz14_0, hfz14_1, hfz14_2, hfz14_3, hfz14_4, hfz14_5, hfz14_6⟩ := d7 BK420.out) | ((with_reducible refine gate_callee (f := 57) rfl ?_); refine goesL_ (some 24) rfl rfl Try.func57 k_ rfl #[.slice A0 l0.length c0, .agg #[.int .i64 ((rd_T76 l2 x18_1).f0.f0), .int .i64 ((rd_T76 l2 x18_1).f0.f1), .int .i64 ((rd_T76 l2 x18_1).f0.f2), .int .i64 ((rd_T76 l2 x18_1).f0.f3), .int .i64 ((rd_T76 l2 x18_1).f0.f4), .int .i64 ((rd_T76 l2 x18_1).f0.f5), .int .i64 ((rd_T76 l2 x18_1).f1)]] rfl m_ ?_; (with_reducible refine (impl_IsBelieved.calls k1 _ _ l0 ((rd_T76 l2 x18_1).f0.f0) ((rd_T76 l2 x18_1).f0.f1) ((rd_T76 l2 x18_1).f0.f2) ((rd_T76 l2 x18_1).f0.f3) ((rd_T76 l2 x18_1).f0.f4) ((rd_T76 l2 x18_1).f0.f5) ((rd_T76 l2 x18_1).f1) true _ ?side1 ?side2 A9.out).mono ?_); (case side1 => exact Kd.C_below HR0.out h_); (case side2 => exact HC0.out); rintro e w15 ⟨rfl, hb⟩; refine ⟨_, rfl, ?_⟩; replace HO_8 := Aside0.mk (Kd.R_below z22_1 hb); replace BK420 := Aside0.mk (blk_below (g := gb420) (o := .cells #[.int .i64 ((rd_T76 l2 x18_1).f0.f0), .int .i64 ((rd_T76 l2 x18_1).f0.f1), .int .i64 ((rd_T76 l2 x18_1).f0.f2), .int .i64 ((rd_T76 l2 x18_1).f0.f3), .int .i64 ((rd_T76 l2 x18_1).f0.f4), .int .i64 ((rd_T76 l2 x18_1).f0.f5), .int .i64 ((rd_T76 l2 x18_1).f1)] 76 (0, 0)) z22_0 hb); replace HB := Aside0.mk (below_step h_ hb); (try clear hb); obtain ⟨hcz16_0, hcz16_1, hcz16_2, hcz16_3, hcz16_4, hcz16_5, hcz16_6, hfz16_0, hfz16_1, hfz16_2, hfz16_3, hfz16_4, hfz16_5, hfz16_6⟩ := d7 BK420.out; obtain ⟨Ao17, co17, eo17⟩ := Kd.R_slice HO_8.out; subst eo17) | ((with_reducible refine gate_callee (f := 68) rfl ?_); refine goesL_ (some 30) rfl rfl Try.func68 k_ rfl #[.slice Ao17 x8_1.length co17, .agg #[.int .i64 ((rd_T76 l2 x18_1).f0.f0), .int .i64 ((rd_T76 l2 x18_1).f0.f1), .int .i64 ((rd_T76 l2 x18_1).f0.f2), .int .i64 ((rd_T76 l2 x18_1).f0.f3), .int .i64 ((rd_T76 l2 x18_1).f0.f4), .int .i64 ((rd_T76 l2 x18_1).f0.f5)]] rfl m_ ?_; (with_reducible refine (impl_PutFact.calls k1 _ _ x8_1 ((rd_T76 l2 x18_1).f0.f0) ((rd_T76 l2 x18_1).f0.f1) ((rd_T76 l2 x18_1).f0.f2) ((rd_T76 l2 x18_1).f0.f3) ((rd_T76 l2 x18_1).f0.f4) ((rd_T76 l2 x18_1).f0.f5) t422 true _ ?side1 ?side2 A11.out).mono ?_); (case side1 => repeat (first | exact (Kd.R_reads' HO_8.out).2.2 | (with_reducible refine Kd.C_alloc ?_ _) | (with_reducible refine Kd.C_drewN ?_ _) | (with_reducible refine Kd.C_drew ?_))); (case side2 => exact (Kd.R_reads' HO_8.out).2.1); rintro e w18 ⟨v423, rfl, ho0, hb⟩; refine ⟨_, rfl, ?_⟩; have HO424 := Aside0.mk (Kd.R_lower (Kd.R_new' ho0 (Kd.R_lt (q_ HO_8.out))) (below_size h_)); replace HO_8 := Aside0.mk (Kd.R_elder' (q_ HO_8.out) (Kd.R_base ho0) hb); replace BK420 := Aside0.mk (blk_below (bo BK420) hb); replace HB := Aside0.mk (below_step h_ hb); (try clear hb); (try clear ho0)))
        go_roundg k1
        case measure => have := HK1.out; omega
        case rel => exact ⟨(t422), (wrap64 (x9_1 + 1)), (wrap64 (x18_1 + 1)), r_, r_, H', ⟨by have := HK1.out; omega⟩, ⟨by (with_reducible repeat (first | apply Kd.R_alloc | apply Kd.R_drewN | apply Kd.R_drew)); exact Kd.R_mono HO424.out (fun _ hk => trivial)⟩, ⟨h_⟩⟩
       ·replace c12 := Bool.eq_false_iff.mpr c12
        subst c12
        replace H := iF H
        have H' := Aside0.mk H
        clear H
        have p419 : 0 ≤ (x18_1 : Int) := of_decide_eq_true s_
        have q419 : x18_1 < (l2.length : Int) := of_decide_eq_true s_
        obtain ⟨ad419, e419, hx419_0, hx419_1, hx419_2, hx419_3, hx419_4, hx419_5, hx419_6⟩ := at_T76 HR2.out x18_1 p419 q419
        cases e419
        replace hx419_0 := cl HB hx419_0; replace hx419_1 := cl HB hx419_1; replace hx419_2 := cl HB hx419_2; replace hx419_3 := cl HB hx419_3; replace hx419_4 := cl HB hx419_4; replace hx419_5 := cl HB hx419_5; replace hx419_6 := cl HB hx419_6
        replace p419 := eq_true p419
        replace q419 := eq_true q419
        go_wp2_with (first | ((with_reducible refine gate_dst (N := 11) rfl ?_); refine bx (N := 11) (cs := #[.int .i64 0, .int .i64 0, .int .i64 0, .int .i64 0, .int .i64 0, .int .i64 0, .int .i64 0]) (t := 76) ?_; intro gb420 hg w19 hbox hb; replace HO_8 := Aside0.mk (Kd.R_below (q_ HO_8.out) hb); have BK420 := Aside0.mk (hbox); have GW420 := Aside0.mk ((by rw [hg]; exact (below_size h_) : w.heap.size ≤ gb420)); have GE420 := Aside0.mk ((by rw [hg]; exact (below_size h_) : w.heap.size ≤ gb420)); replace HB := Aside0.mk (below_step h_ hb); clear hb hbox hg; obtain ⟨hcz20_0, hcz20_1, hcz20_2, hcz20_3, hcz20_4, hcz20_5, hcz20_6, hfz20_0, hfz20_1, hfz20_2, hfz20_3, hfz20_4, hfz20_5, hfz20_6⟩ := d7 BK420.out) | ((with_reducible refine gate_callee (f := 57) rfl ?_); refine goesL_ (some 24) rfl rfl Try.func57 k_ rfl #[.slice A0 l0.length c0, .agg #[.int .i64 ((rd_T76 l2 x18_1).f0.f0), .int .i64 ((rd_T76 l2 x18_1).f0.f1), .int .i64 ((rd_T76 l2 x18_1).f0.f2), .int .i64 ((rd_T76 l2 x18_1).f0.f3), .int .i64 ((rd_T76 l2 x18_1).f0.f4), .int .i64 ((rd_T76 l2 x18_1).f0.f5), .int .i64 ((rd_T76 l2 x18_1).f1)]] rfl m_ ?_; (with_reducible refine (impl_IsBelieved.calls k1 _ _ l0 ((rd_T76 l2 x18_1).f0.f0) ((rd_T76 l2 x18_1).f0.f1) ((rd_T76 l2 x18_1).f0.f2) ((rd_T76 l2 x18_1).f0.f3) ((rd_T76 l2 x18_1).f0.f4) ((rd_T76 l2 x18_1).f0.f5) ((rd_T76 l2 x18_1).f1) true _ ?side1 ?side2 A9.out).mono ?_); (case side1 => exact Kd.C_below HR0.out h_); (case side2 => exact HC0.out); rintro e w21 ⟨rfl, hb⟩; refine ⟨_, rfl, ?_⟩; replace HO_8 := Aside0.mk (Kd.R_below z22_1 hb); replace BK420 := Aside0.mk (blk_below (g := gb420) (o := .cells #[.int .i64 ((rd_T76 l2 x18_1).f0.f0), .int .i64 ((rd_T76 l2 x18_1).f0.f1), .int .i64 ((rd_T76 l2 x18_1).f0.f2), .int .i64 ((rd_T76 l2 x18_1).f0.f3), .int .i64 ((rd_T76 l2 x18_1).f0.f4), .int .i64 ((rd_T76 l2 x18_1).f0.f5), .int .i64 ((rd_T76 l2 x18_1).f1)] 76 (0, 0)) z22_0 hb); replace HB := Aside0.mk (below_step h_ hb); (try clear hb); obtain ⟨hcz22_0, hcz22_1, hcz22_2, hcz22_3, hcz22_4, hcz22_5, hcz22_6, hfz22_0, hfz22_1, hfz22_2, hfz22_3, hfz22_4, hfz22_5, hfz22_6⟩ := d7 BK420.out; obtain ⟨Ao23, co23, eo23⟩ := Kd.R_slice HO_8.out; subst eo23) | ((with_reducible refine gate_callee (f := 68) rfl ?_); refine goesL_ (some 30) rfl rfl Try.func68 k_ rfl #[.slice Ao23 x8_1.length co23, .agg #[.int .i64 ((rd_T76 l2 x18_1).f0.f0), .int .i64 ((rd_T76 l2 x18_1).f0.f1), .int .i64 ((rd_T76 l2 x18_1).f0.f2), .int .i64 ((rd_T76 l2 x18_1).f0.f3), .int .i64 ((rd_T76 l2 x18_1).f0.f4), .int .i64 ((rd_T76 l2 x18_1).f0.f5)]] rfl m_ ?_; (with_reducible refine (impl_PutFact.calls k1 _ _ x8_1 ((rd_T76 l2 x18_1).f0.f0) ((rd_T76 l2 x18_1).f0.f1) ((rd_T76 l2 x18_1).f0.f2) ((rd_T76 l2 x18_1).f0.f3) ((rd_T76 l2 x18_1).f0.f4) ((rd_T76 l2 x18_1).f0.f5) t422 false _ ?side1 ?side2 A11.out).mono ?_); (case side1 => repeat (first | exact (Kd.R_reads' HO_8.out).2.2 | (with_reducible refine Kd.C_alloc ?_ _) | (with_reducible refine Kd.C_drewN ?_ _) | (with_reducible refine Kd.C_drew ?_))); (case side2 => exact (Kd.R_reads' HO_8.out).2.1); rintro e w24 ⟨v423, rfl, ho0, hb⟩; refine ⟨_, rfl, ?_⟩; have HO424 := Aside0.mk (Kd.R_lower (Kd.R_new' ho0 (Kd.R_lt (q_ HO_8.out))) (below_size h_)); replace HO_8 := Aside0.mk (Kd.R_elder' (q_ HO_8.out) (Kd.R_base ho0) hb); replace BK420 := Aside0.mk (blk_below (bo BK420) hb); replace HB := Aside0.mk (below_step h_ hb); (try clear hb); (try clear ho0)))
        go_roundg k1
        case measure => have := HK1.out; omega
        case rel => exact ⟨(x8_1), (x9_1), (wrap64 (x18_1 + 1)), r_, r_, H', ⟨by have := HK1.out; omega⟩, ⟨by (with_reducible repeat (first | apply Kd.R_alloc | apply Kd.R_drewN | apply Kd.R_drew)); exact Kd.R_mono HO_8.out (fun _ hk => trivial)⟩, ⟨h_⟩⟩
      ·replace c10 := Bool.eq_false_iff.mpr c10
       subst c10
       replace H := iF H
       have H' := Aside0.mk H
       clear H
       have p419 : 0 ≤ (x18_1 : Int) := of_decide_eq_true s_
       have q419 : x18_1 < (l2.length : Int) := of_decide_eq_true s_
       obtain ⟨ad419, e419, hx419_0, hx419_1, hx419_2, hx419_3, hx419_4, hx419_5, hx419_6⟩ := at_T76 HR2.out x18_1 p419 q419
       cases e419
       replace hx419_0 := cl HB hx419_0; replace hx419_1 := cl HB hx419_1; replace hx419_2 := cl HB hx419_2; replace hx419_3 := cl HB hx419_3; replace hx419_4 := cl HB hx419_4; replace hx419_5 := cl HB hx419_5; replace hx419_6 := cl HB hx419_6
       replace p419 := eq_true p419
       replace q419 := eq_true q419
       go_wp2_with (first | ((with_reducible refine gate_dst (N := 11) rfl ?_); refine bx (N := 11) (cs := #[.int .i64 0, .int .i64 0, .int .i64 0, .int .i64 0, .int .i64 0, .int .i64 0, .int .i64 0]) (t := 76) ?_; intro gb420 hg w25 hbox hb; replace HO_8 := Aside0.mk (Kd.R_below (q_ HO_8.out) hb); have BK420 := Aside0.mk (hbox); have GW420 := Aside0.mk ((by rw [hg]; exact (below_size h_) : w.heap.size ≤ gb420)); have GE420 := Aside0.mk ((by rw [hg]; exact (below_size h_) : w.heap.size ≤ gb420)); replace HB := Aside0.mk (below_step h_ hb); clear hb hbox hg; obtain ⟨hcz26_0, hcz26_1, hcz26_2, hcz26_3, hcz26_4, hcz26_5, hcz26_6, hfz26_0, hfz26_1, hfz26_2, hfz26_3, hfz26_4, hfz26_5, hfz26_6⟩ := d7 BK420.out) | ((with_reducible refine gate_callee (f := 57) rfl ?_); refine goesL_ (some 24) rfl rfl Try.func57 k_ rfl #[.slice A0 l0.length c0, .agg #[.int .i64 ((rd_T76 l2 x18_1).f0.f0), .int .i64 ((rd_T76 l2 x18_1).f0.f1), .int .i64 ((rd_T76 l2 x18_1).f0.f2), .int .i64 ((rd_T76 l2 x18_1).f0.f3), .int .i64 ((rd_T76 l2 x18_1).f0.f4), .int .i64 ((rd_T76 l2 x18_1).f0.f5), .int .i64 ((rd_T76 l2 x18_1).f1)]] rfl m_ ?_; (with_reducible refine (impl_IsBelieved.calls k1 _ _ l0 ((rd_T76 l2 x18_1).f0.f0) ((rd_T76 l2 x18_1).f0.f1) ((rd_T76 l2 x18_1).f0.f2) ((rd_T76 l2 x18_1).f0.f3) ((rd_T76 l2 x18_1).f0.f4) ((rd_T76 l2 x18_1).f0.f5) ((rd_T76 l2 x18_1).f1) false _ ?side1 ?side2 A9.out).mono ?_); (case side1 => exact Kd.C_below HR0.out h_); (case side2 => exact HC0.out); rintro e w27 ⟨rfl, hb⟩; refine ⟨_, rfl, ?_⟩; replace HO_8 := Aside0.mk (Kd.R_below z22_1 hb); replace BK420 := Aside0.mk (blk_below (g := gb420) (o := .cells #[.int .i64 ((rd_T76 l2 x18_1).f0.f0), .int .i64 ((rd_T76 l2 x18_1).f0.f1), .int .i64 ((rd_T76 l2 x18_1).f0.f2), .int .i64 ((rd_T76 l2 x18_1).f0.f3), .int .i64 ((rd_T76 l2 x18_1).f0.f4), .int .i64 ((rd_T76 l2 x18_1).f0.f5), .int .i64 ((rd_T76 l2 x18_1).f1)] 76 (0, 0)) z22_0 hb); replace HB := Aside0.mk (below_step h_ hb); (try clear hb)))
       go_roundg k1
       case measure => have := HK1.out; omega
       case rel => exact ⟨(x8_1), (x9_1), (wrap64 (x18_1 + 1)), r_, r_, H', ⟨by have := HK1.out; omega⟩, ⟨by (with_reducible repeat (first | apply Kd.R_alloc | apply Kd.R_drewN | apply Kd.R_drew)); exact HO_8.out⟩, ⟨h_⟩⟩
     ·rw [if_neg c8] at H
      exact absurd H (by simp)
    ·rw [if_neg c7] at H
     exact absurd H (by simp)
   ·rw [if_neg c6] at H
    have c6b0 : decide (x18_1 < (l2.length : Int)) = false := decide_eq_false c6
    clear c6
    simp only [Option.some.injEq, Prod.mk.injEq] at H
    obtain ⟨rfl, rfl⟩ := H
    go_wp2
    go_ret2
    exact ⟨_, e_, by (with_reducible repeat (first | apply Kd.R_alloc | apply Kd.R_drewN | apply Kd.R_drew)); exact HO_8.out, h_⟩

/-! ### laws_eqFact: function 69 -/
def laws_eqFact.f (a0_0 : Int) (a0_1 : Int) (a0_2 : Int) (a0_3 : Int) (a0_4 : Int) (a0_5 : Int) (a1_0 : Int) (a1_1 : Int) (a1_2 : Int) (a1_3 : Int) (a1_4 : Int) (a1_5 : Int) : Option (Bool) := if a0_0 = a1_0 then (if a0_1 = a1_1 then (if a0_2 = a1_2 then (if a0_3 = a1_3 then (if a0_4 = a1_4 then (if a0_5 = a1_5 then (some true) else (some false)) else (some false)) else (some false)) else (some false)) else (some false)) else (some false)
set_option maxRecDepth 100000 in
theorem zl69 {Q : Prop} (g : Q := by go_enter Try.func69, Try.ntmps69; go_wp2_with (first | ((with_reducible refine gate_dst (N := 2) rfl ?_); refine bx (N := 2) (cs := #[.int .i64 a0_0, .int .i64 a0_1, .int .i64 a0_2, .int .i64 a0_3, .int .i64 a0_4, .int .i64 a0_5]) (t := 55) ?_; intro gb426 hg w0q hbox hb; have BK426 := Aside0.mk (hbox); have GW426 := Aside0.mk ((by rw [hg]; exact (below_size h_) : w.heap.size ≤ gb426)); have GE426 := Aside0.mk ((by rw [hg]; exact (below_size h_) : w.heap.size ≤ gb426)); replace HB := Aside0.mk (below_step h_ hb); clear hb hbox hg) | ((with_reducible refine gate_dst (N := 3) rfl ?_); refine bx (N := 3) (cs := #[.int .i64 a1_0, .int .i64 a1_1, .int .i64 a1_2, .int .i64 a1_3, .int .i64 a1_4, .int .i64 a1_5]) (t := 55) ?_; intro gb427 hg w1q hbox hb; have BK427 := Aside0.mk (hbox); have GW427 := Aside0.mk ((by rw [hg]; exact (below_size h_) : w.heap.size ≤ gb427)); have GE427 := Aside0.mk ((by rw [hg]; exact (below_size h_) : w.heap.size ≤ gb427)); replace HB := Aside0.mk (below_step h_ hb); have NB426_427 := Aside0.mk ((by rw [hg]; exact Nat.ne_of_lt (blk_lt (bo BK426)) : gb426 ≠ gb427)); have NB427_426 := Aside0.mk ((by rw [hg]; exact Nat.ne_of_gt (blk_lt (bo BK426)) : gb427 ≠ gb426)); replace BK426 := Aside0.mk (blk_below (bo BK426) hb); clear hb hbox hg; have hnb11 := NB426_427.out; have hnc11 := NB427_426.out; obtain ⟨hcz12_0, hcz12_1, hcz12_2, hcz12_3, hcz12_4, hcz12_5, hfz12_0, hfz12_1, hfz12_2, hfz12_3, hfz12_4, hfz12_5⟩ := d6 BK426.out; obtain ⟨hcz13_0, hcz13_1, hcz13_2, hcz13_3, hcz13_4, hcz13_5, hfz13_0, hfz13_1, hfz13_2, hfz13_3, hfz13_4, hfz13_5⟩ := d6 BK427.out) | ((with_reducible refine gate_dst (N := 3) rfl ?_); refine bx (N := 3) (cs := #[.int .i64 a1_0, .int .i64 a1_1, .int .i64 a1_2, .int .i64 a1_3, .int .i64 a1_4, .int .i64 a1_5]) (t := 55) ?_; intro gb427 hg w1q hbox hb; have BK427 := Aside0.mk (hbox); have GW427 := Aside0.mk ((by rw [hg]; exact (below_size h_) : w.heap.size ≤ gb427)); have GE427 := Aside0.mk ((by rw [hg]; exact (below_size h_) : w.heap.size ≤ gb427)); replace HB := Aside0.mk (below_step h_ hb); have NB426_427 := Aside0.mk ((by rw [hg]; exact Nat.ne_of_lt (blk_lt (bo BK426)) : gb426 ≠ gb427)); have NB427_426 := Aside0.mk ((by rw [hg]; exact Nat.ne_of_gt (blk_lt (bo BK426)) : gb427 ≠ gb426)); replace BK426 := Aside0.mk (blk_below (bo BK426) hb); clear hb hbox hg; have hnb16 := NB426_427.out; have hnc16 := NB427_426.out; obtain ⟨hcz17_0, hcz17_1, hcz17_2, hcz17_3, hcz17_4, hcz17_5, hfz17_0, hfz17_1, hfz17_2, hfz17_3, hfz17_4, hfz17_5⟩ := d6 BK426.out; obtain ⟨hcz18_0, hcz18_1, hcz18_2, hcz18_3, hcz18_4, hcz18_5, hfz18_0, hfz18_1, hfz18_2, hfz18_3, hfz18_4, hfz18_5⟩ := d6 BK427.out) | ((with_reducible refine gate_dst (N := 3) rfl ?_); refine bx (N := 3) (cs := #[.int .i64 a1_0, .int .i64 a1_1, .int .i64 a1_2, .int .i64 a1_3, .int .i64 a1_4, .int .i64 a1_5]) (t := 55) ?_; intro gb427 hg w1q hbox hb; have BK427 := Aside0.mk (hbox); have GW427 := Aside0.mk ((by rw [hg]; exact (below_size h_) : w.heap.size ≤ gb427)); have GE427 := Aside0.mk ((by rw [hg]; exact (below_size h_) : w.heap.size ≤ gb427)); replace HB := Aside0.mk (below_step h_ hb); have NB426_427 := Aside0.mk ((by rw [hg]; exact Nat.ne_of_lt (blk_lt (bo BK426)) : gb426 ≠ gb427)); have NB427_426 := Aside0.mk ((by rw [hg]; exact Nat.ne_of_gt (blk_lt (bo BK426)) : gb427 ≠ gb426)); replace BK426 := Aside0.mk (blk_below (bo BK426) hb); clear hb hbox hg; have hnb21 := NB426_427.out; have hnc21 := NB427_426.out; obtain ⟨hcz22_0, hcz22_1, hcz22_2, hcz22_3, hcz22_4, hcz22_5, hfz22_0, hfz22_1, hfz22_2, hfz22_3, hfz22_4, hfz22_5⟩ := d6 BK426.out; obtain ⟨hcz23_0, hcz23_1, hcz23_2, hcz23_3, hcz23_4, hcz23_5, hfz23_0, hfz23_1, hfz23_2, hfz23_3, hfz23_4, hfz23_5⟩ := d6 BK427.out) | ((with_reducible refine gate_dst (N := 3) rfl ?_); refine bx (N := 3) (cs := #[.int .i64 a1_0, .int .i64 a1_1, .int .i64 a1_2, .int .i64 a1_3, .int .i64 a1_4, .int .i64 a1_5]) (t := 55) ?_; intro gb427 hg w1q hbox hb; have BK427 := Aside0.mk (hbox); have GW427 := Aside0.mk ((by rw [hg]; exact (below_size h_) : w.heap.size ≤ gb427)); have GE427 := Aside0.mk ((by rw [hg]; exact (below_size h_) : w.heap.size ≤ gb427)); replace HB := Aside0.mk (below_step h_ hb); have NB426_427 := Aside0.mk ((by rw [hg]; exact Nat.ne_of_lt (blk_lt (bo BK426)) : gb426 ≠ gb427)); have NB427_426 := Aside0.mk ((by rw [hg]; exact Nat.ne_of_gt (blk_lt (bo BK426)) : gb427 ≠ gb426)); replace BK426 := Aside0.mk (blk_below (bo BK426) hb); clear hb hbox hg; have hnb26 := NB426_427.out; have hnc26 := NB427_426.out; obtain ⟨hcz27_0, hcz27_1, hcz27_2, hcz27_3, hcz27_4, hcz27_5, hfz27_0, hfz27_1, hfz27_2, hfz27_3, hfz27_4, hfz27_5⟩ := d6 BK426.out; obtain ⟨hcz28_0, hcz28_1, hcz28_2, hcz28_3, hcz28_4, hcz28_5, hfz28_0, hfz28_1, hfz28_2, hfz28_3, hfz28_4, hfz28_5⟩ := d6 BK427.out) | ((with_reducible refine gate_dst (N := 3) rfl ?_); refine bx (N := 3) (cs := #[.int .i64 a1_0, .int .i64 a1_1, .int .i64 a1_2, .int .i64 a1_3, .int .i64 a1_4, .int .i64 a1_5]) (t := 55) ?_; intro gb427 hg w1q hbox hb; have BK427 := Aside0.mk (hbox); have GW427 := Aside0.mk ((by rw [hg]; exact (below_size h_) : w.heap.size ≤ gb427)); have GE427 := Aside0.mk ((by rw [hg]; exact (below_size h_) : w.heap.size ≤ gb427)); replace HB := Aside0.mk (below_step h_ hb); have NB426_427 := Aside0.mk ((by rw [hg]; exact Nat.ne_of_lt (blk_lt (bo BK426)) : gb426 ≠ gb427)); have NB427_426 := Aside0.mk ((by rw [hg]; exact Nat.ne_of_gt (blk_lt (bo BK426)) : gb427 ≠ gb426)); replace BK426 := Aside0.mk (blk_below (bo BK426) hb); clear hb hbox hg; have hnb31 := NB426_427.out; have hnc31 := NB427_426.out; obtain ⟨hcz32_0, hcz32_1, hcz32_2, hcz32_3, hcz32_4, hcz32_5, hfz32_0, hfz32_1, hfz32_2, hfz32_3, hfz32_4, hfz32_5⟩ := d6 BK426.out; obtain ⟨hcz33_0, hcz33_1, hcz33_2, hcz33_3, hcz33_4, hcz33_5, hfz33_0, hfz33_1, hfz33_2, hfz33_3, hfz33_4, hfz33_5⟩ := d6 BK427.out) | ((with_reducible refine gate_dst (N := 3) rfl ?_); refine bx (N := 3) (cs := #[.int .i64 a1_0, .int .i64 a1_1, .int .i64 a1_2, .int .i64 a1_3, .int .i64 a1_4, .int .i64 a1_5]) (t := 55) ?_; intro gb427 hg w1q hbox hb; have BK427 := Aside0.mk (hbox); have GW427 := Aside0.mk ((by rw [hg]; exact (below_size h_) : w.heap.size ≤ gb427)); have GE427 := Aside0.mk ((by rw [hg]; exact (below_size h_) : w.heap.size ≤ gb427)); replace HB := Aside0.mk (below_step h_ hb); have NB426_427 := Aside0.mk ((by rw [hg]; exact Nat.ne_of_lt (blk_lt (bo BK426)) : gb426 ≠ gb427)); have NB427_426 := Aside0.mk ((by rw [hg]; exact Nat.ne_of_gt (blk_lt (bo BK426)) : gb427 ≠ gb426)); replace BK426 := Aside0.mk (blk_below (bo BK426) hb); clear hb hbox hg; have hnb36 := NB426_427.out; have hnc36 := NB427_426.out; obtain ⟨hcz37_0, hcz37_1, hcz37_2, hcz37_3, hcz37_4, hcz37_5, hfz37_0, hfz37_1, hfz37_2, hfz37_3, hfz37_4, hfz37_5⟩ := d6 BK426.out; obtain ⟨hcz38_0, hcz38_1, hcz38_2, hcz38_3, hcz38_4, hcz38_5, hfz38_0, hfz38_1, hfz38_2, hfz38_3, hfz38_4, hfz38_5⟩ := d6 BK427.out) | ((with_reducible refine gate_dst (N := 3) rfl ?_); refine bx (N := 3) (cs := #[.int .i64 a1_0, .int .i64 a1_1, .int .i64 a1_2, .int .i64 a1_3, .int .i64 a1_4, .int .i64 a1_5]) (t := 55) ?_; intro gb427 hg w1q hbox hb; have BK427 := Aside0.mk (hbox); have GW427 := Aside0.mk ((by rw [hg]; exact (below_size h_) : w.heap.size ≤ gb427)); have GE427 := Aside0.mk ((by rw [hg]; exact (below_size h_) : w.heap.size ≤ gb427)); replace HB := Aside0.mk (below_step h_ hb); have NB426_427 := Aside0.mk ((by rw [hg]; exact Nat.ne_of_lt (blk_lt (bo BK426)) : gb426 ≠ gb427)); have NB427_426 := Aside0.mk ((by rw [hg]; exact Nat.ne_of_gt (blk_lt (bo BK426)) : gb427 ≠ gb426)); replace BK426 := Aside0.mk (blk_below (bo BK426) hb); clear hb hbox hg; have hnb41 := NB426_427.out; have hnc41 := NB427_426.out; obtain ⟨hcz42_0, hcz42_1, hcz42_2, hcz42_3, hcz42_4, hcz42_5, hfz42_0, hfz42_1, hfz42_2, hfz42_3, hfz42_4, hfz42_5⟩ := d6 BK426.out; obtain ⟨hcz43_0, hcz43_1, hcz43_2, hcz43_3, hcz43_4, hcz43_5, hfz43_0, hfz43_1, hfz43_2, hfz43_3, hfz43_4, hfz43_5⟩ := d6 BK427.out)); go_ret; exact ⟨e_, h_⟩) : Q := g
set_option maxHeartbeats 8000000 in
set_option maxRecDepth 100000 in
theorem laws_eqFact.calls (a0_0 : Int) (a0_1 : Int) (a0_2 : Int) (a0_3 : Int) (a0_4 : Int) (a0_5 : Int) (a1_0 : Int) (a1_1 : Int) (a1_2 : Int) (a1_3 : Int) (a1_4 : Int) (a1_5 : Int) (r : Bool) (w : World) (h : laws_eqFact.f a0_0 a0_1 a0_2 a0_3 a0_4 a0_5 a1_0 a1_1 a1_2 a1_3 a1_4 a1_5 = some r) :
  Calls Try.prog 69 #[.agg #[.int .i64 a0_0, .int .i64 a0_1, .int .i64 a0_2, .int .i64 a0_3, .int .i64 a0_4, .int .i64 a0_5], .agg #[.int .i64 a1_0, .int .i64 a1_1, .int .i64 a1_2, .int .i64 a1_3, .int .i64 a1_4, .int .i64 a1_5]] w fun e w' => e = .returned (.bool r) ∧ Below w.heap.size w w' := by
 have hu55 := Try.underlying55
 have HB := Aside0.mk (Below.refl w.heap.size w)
 have H : (if a0_0 = a1_0 then (if a0_1 = a1_1 then (if a0_2 = a1_2 then (if a0_3 = a1_3 then (if a0_4 = a1_4 then (if a0_5 = a1_5 then (some true) else (some false)) else (some false)) else (some false)) else (some false)) else (some false)) else (some false)) = some r := h
 clear h
 by_cases c3 : a0_0 = a1_0
 ·rw [if_pos c3] at H
  have c3b0 : (a0_0 == a1_0) = true := beq_iff_eq.mpr c3
  have c3b1 : (a0_0 != a1_0) = false := bne_eq_false_iff_eq.mpr c3
  clear c3
  by_cases c4 : a0_1 = a1_1
  ·rw [if_pos c4] at H
   have c4b0 : (a0_1 == a1_1) = true := beq_iff_eq.mpr c4
   have c4b1 : (a0_1 != a1_1) = false := bne_eq_false_iff_eq.mpr c4
   clear c4
   by_cases c5 : a0_2 = a1_2
   ·rw [if_pos c5] at H
    have c5b0 : (a0_2 == a1_2) = true := beq_iff_eq.mpr c5
    have c5b1 : (a0_2 != a1_2) = false := bne_eq_false_iff_eq.mpr c5
    clear c5
    by_cases c6 : a0_3 = a1_3
    ·rw [if_pos c6] at H
     have c6b0 : (a0_3 == a1_3) = true := beq_iff_eq.mpr c6
     have c6b1 : (a0_3 != a1_3) = false := bne_eq_false_iff_eq.mpr c6
     clear c6
     by_cases c7 : a0_4 = a1_4
     ·rw [if_pos c7] at H
      have c7b0 : (a0_4 == a1_4) = true := beq_iff_eq.mpr c7
      have c7b1 : (a0_4 != a1_4) = false := bne_eq_false_iff_eq.mpr c7
      clear c7
      by_cases c8 : a0_5 = a1_5
      ·rw [if_pos c8] at H
       have c8b0 : (a0_5 == a1_5) = true := beq_iff_eq.mpr c8
       have c8b1 : (a0_5 != a1_5) = false := bne_eq_false_iff_eq.mpr c8
       clear c8
       obtain rfl := Option.some.inj H
       exact zl69
      ·rw [if_neg c8] at H
       have c8b0 : (a0_5 == a1_5) = false := beq_eq_false_iff_ne.mpr c8
       have c8b1 : (a0_5 != a1_5) = true := bne_iff_ne.mpr c8
       obtain rfl := Option.some.inj H
       exact zl69
     ·rw [if_neg c7] at H
      have c7b0 : (a0_4 == a1_4) = false := beq_eq_false_iff_ne.mpr c7
      have c7b1 : (a0_4 != a1_4) = true := bne_iff_ne.mpr c7
      obtain rfl := Option.some.inj H
      exact zl69
    ·rw [if_neg c6] at H
     have c6b0 : (a0_3 == a1_3) = false := beq_eq_false_iff_ne.mpr c6
     have c6b1 : (a0_3 != a1_3) = true := bne_iff_ne.mpr c6
     obtain rfl := Option.some.inj H
     exact zl69
   ·rw [if_neg c5] at H
    have c5b0 : (a0_2 == a1_2) = false := beq_eq_false_iff_ne.mpr c5
    have c5b1 : (a0_2 != a1_2) = true := bne_iff_ne.mpr c5
    obtain rfl := Option.some.inj H
    exact zl69
  ·rw [if_neg c4] at H
   have c4b0 : (a0_1 == a1_1) = false := beq_eq_false_iff_ne.mpr c4
   have c4b1 : (a0_1 != a1_1) = true := bne_iff_ne.mpr c4
   obtain rfl := Option.some.inj H
   exact zl69
 ·rw [if_neg c3] at H
  have c3b0 : (a0_0 == a1_0) = false := beq_eq_false_iff_ne.mpr c3
  have c3b1 : (a0_0 != a1_0) = true := bne_iff_ne.mpr c3
  obtain rfl := Option.some.inj H
  exact zl69

/-! ### laws_eqFactS: function 23 -/
def laws_eqFactS.l0 : Nat → List (S55) → List (S55) → Int → Option (Bool)
 | 0, _, _, _ => none
 | k + 1, x0, x1, x5 => if x5 < (x0.length : Int) then (if 0 ≤ x5 then (if x5 < (x1.length : Int) then ((laws_eqFact.f ((rd_T55 x0 x5).f0) ((rd_T55 x0 x5).f1) ((rd_T55 x0 x5).f2) ((rd_T55 x0 x5).f3) ((rd_T55 x0 x5).f4) ((rd_T55 x0 x5).f5) ((rd_T55 x1 x5).f0) ((rd_T55 x1 x5).f1) ((rd_T55 x1 x5).f2) ((rd_T55 x1 x5).f3) ((rd_T55 x1 x5).f4) ((rd_T55 x1 x5).f5)).bind fun t430 => (if t430 = true then (laws_eqFactS.l0 k x0 x1 (wrap64 (x5 + 1))) else (some false))) else (none)) else (none)) else (some true)
def laws_eqFactS.f (k : Nat) (l0 : List (S55)) (l1 : List (S55)) : Option (Bool) := if (l0.length : Int) = (l1.length : Int) then (laws_eqFactS.l0 k l0 l1 0) else (some false)
def laws_eqFactS.T6 : Bool × List (List Nat × List Nat) := (true, [([], []), ([], []), ([0, 1], [0, 1]), ([2], [2]), ([], []), ([], []), ([4, 5], [4, 5]), ([6], [6]), ([3, 7], [3, 7]), ([8], [8])])
def laws_eqFactS.B6 : List Nat := [0, 0, 3, 7, 0, 0, 48, 112, 255, 511]
theorem laws_eqFactS.tab6 : rtab .any (opsOf Try.f23 6) = laws_eqFactS.T6 := by kernel_rfl
theorem laws_eqFactS.bits6 : waitsOk laws_eqFactS.T6.2 laws_eqFactS.B6 = true := by kernel_rfl
set_option maxHeartbeats 8000000 in
set_option maxRecDepth 100000 in
theorem laws_eqFactS.calls (k : Nat) (A0 : Option Addr) (c0 : Nat) (l0 : List (S55)) (A1 : Option Addr) (c1 : Nat) (l1 : List (S55)) (r : Bool) (w : World) (hr0 : Kd.C k55 w A0 l0.length l0) (hc0 : l0.length ≤ c0) (hr1 : Kd.C k55 w A1 l1.length l1) (hc1 : l1.length ≤ c1) (h : laws_eqFactS.f k l0 l1 = some r) :
  Calls Try.prog 23 #[.slice A0 l0.length c0, .slice A1 l1.length c1] w fun e w' => e = .returned (.bool r) ∧ Below w.heap.size w w' := by
 have hu55 := Try.underlying55
 have HR0 := Aside0.mk hr0
 have HC0 := Aside0.mk hc0
 clear hr0 hc0
 have HR1 := Aside0.mk hr1
 have HC1 := Aside0.mk hc1
 clear hr1 hc1
 have HB := Aside0.mk (Below.refl w.heap.size w)
 have H : (if (l0.length : Int) = (l1.length : Int) then (laws_eqFactS.l0 k l0 l1 0) else (some false)) = some r := h
 clear h
 by_cases c3 : (l0.length : Int) = (l1.length : Int)
 ·rw [if_pos c3] at H
  have c3b0 : ((l0.length : Int) == (l1.length : Int)) = true := beq_iff_eq.mpr c3
  have c3b1 : ((l0.length : Int) != (l1.length : Int)) = false := bne_eq_false_iff_eq.mpr c3
  have c3b2 : (l0.length == l1.length) = true := by first | simpa using c3 | (simp at c3 ⊢; omega)
  clear c3
  have H' := Aside0.mk H
  clear H
  go_enter Try.func23, Try.ntmps23
  go_wp2
  go_loopg [5] k (fun kq v5 w' => ∃ (x5_1 : Int), v5 = .int .i64 x5_1 ∧ Aside0 (laws_eqFactS.l0 kq l0 l1 x5_1 = some r) ∧ Aside0 (kq ≤ k) ∧ Aside0 (Below w.heap.size w w'))
  case atStart => exact ⟨(0), r_, H', ⟨Nat.le_refl _⟩, ⟨h_⟩⟩
  case round =>
   clear H'; try clear c1; try clear c2; try clear p2; try clear c3; try clear c3b0; try clear c3b1; try clear c3b2
   obtain ⟨x5_1, rfl, HA, HK1, HB⟩ := hrel
   cases gk with
   | zero => exact absurd HA.out (by simp [laws_eqFactS.l0])
   | succ k1 =>
    have H := HA.out
    clear HA
    simp only [laws_eqFactS.l0] at H
    by_cases c4 : x5_1 < (l0.length : Int)
    ·rw [if_pos c4] at H
     have c4b0 : decide (x5_1 < (l0.length : Int)) = true := decide_eq_true c4
     clear c4
     by_cases c5 : 0 ≤ x5_1
     ·rw [if_pos c5] at H
      have c5b0 : decide (0 ≤ x5_1) = true := decide_eq_true c5
      clear c5
      by_cases c6 : x5_1 < (l1.length : Int)
      ·rw [if_pos c6] at H
       have c6b0 : decide (x5_1 < (l1.length : Int)) = true := decide_eq_true c6
       clear c6
       obtain ⟨t430, A7, H⟩ := bA H
       by_cases c8 : t430 = true
       ·subst c8
        replace H := iT H
        have H' := Aside0.mk H
        clear H
        try go_wp2
        replace HB := Aside0.mk (below_drew1 HB.out)
        have p428 : 0 ≤ (x5_1 : Int) := of_decide_eq_true s_
        have q428 : x5_1 < (l0.length : Int) := of_decide_eq_true s_
        obtain ⟨ad428, e428, hx428_0, hx428_1, hx428_2, hx428_3, hx428_4, hx428_5⟩ := at_T55 HR0.out x5_1 p428 q428
        have hw428_5 := hx428_5; have hw428_4 := hx428_4; have hw428_3 := hx428_3; have hw428_2 := hx428_2; have hw428_1 := hx428_1; have hw428_0 := hx428_0
        cases e428
        replace hx428_0 := cl HB hx428_0; replace hx428_1 := cl HB hx428_1; replace hx428_2 := cl HB hx428_2; replace hx428_3 := cl HB hx428_3; replace hx428_4 := cl HB hx428_4; replace hx428_5 := cl HB hx428_5
        replace p428 := eq_true p428
        replace q428 := eq_true q428
        have p429 : 0 ≤ (x5_1 : Int) := of_decide_eq_true s_
        have q429 : x5_1 < (l1.length : Int) := of_decide_eq_true s_
        obtain ⟨ad429, e429, hx429_0, hx429_1, hx429_2, hx429_3, hx429_4, hx429_5⟩ := at_T55 HR1.out x5_1 p429 q429
        have hw429_5 := hx429_5; have hw429_4 := hx429_4; have hw429_3 := hx429_3; have hw429_2 := hx429_2; have hw429_1 := hx429_1; have hw429_0 := hx429_0
        cases e429
        replace hx429_0 := cl HB hx429_0; replace hx429_1 := cl HB hx429_1; replace hx429_2 := cl HB hx429_2; replace hx429_3 := cl HB hx429_3; replace hx429_4 := cl HB hx429_4; replace hx429_5 := cl HB hx429_5
        replace p429 := eq_true p429
        replace q429 := eq_true q429
        refine start_ (n := 10) (S := fun w' => w'.cell? (ad428.add ((x5_1).toNat * 6)) = some (.int .i64 ((rd_T55 l0 x5_1).f0)) ∧ w'.cell? ⟨(ad428.add ((x5_1).toNat * 6)).block, (ad428.add ((x5_1).toNat * 6)).off + 1, none⟩ = some (.int .i64 ((rd_T55 l0 x5_1).f1)) ∧ w'.cell? ⟨(ad428.add ((x5_1).toNat * 6)).block, (ad428.add ((x5_1).toNat * 6)).off + 2, none⟩ = some (.int .i64 ((rd_T55 l0 x5_1).f2)) ∧ w'.cell? ⟨(ad428.add ((x5_1).toNat * 6)).block, (ad428.add ((x5_1).toNat * 6)).off + 3, none⟩ = some (.int .i64 ((rd_T55 l0 x5_1).f3)) ∧ w'.cell? ⟨(ad428.add ((x5_1).toNat * 6)).block, (ad428.add ((x5_1).toNat * 6)).off + 4, none⟩ = some (.int .i64 ((rd_T55 l0 x5_1).f4)) ∧ w'.cell? ⟨(ad428.add ((x5_1).toNat * 6)).block, (ad428.add ((x5_1).toNat * 6)).off + 5, none⟩ = some (.int .i64 ((rd_T55 l0 x5_1).f5)) ∧ w'.cell? (ad429.add ((x5_1).toNat * 6)) = some (.int .i64 ((rd_T55 l1 x5_1).f0)) ∧ w'.cell? ⟨(ad429.add ((x5_1).toNat * 6)).block, (ad429.add ((x5_1).toNat * 6)).off + 1, none⟩ = some (.int .i64 ((rd_T55 l1 x5_1).f1)) ∧ w'.cell? ⟨(ad429.add ((x5_1).toNat * 6)).block, (ad429.add ((x5_1).toNat * 6)).off + 2, none⟩ = some (.int .i64 ((rd_T55 l1 x5_1).f2)) ∧ w'.cell? ⟨(ad429.add ((x5_1).toNat * 6)).block, (ad429.add ((x5_1).toNat * 6)).off + 3, none⟩ = some (.int .i64 ((rd_T55 l1 x5_1).f3)) ∧ w'.cell? ⟨(ad429.add ((x5_1).toNat * 6)).block, (ad429.add ((x5_1).toNat * 6)).off + 4, none⟩ = some (.int .i64 ((rd_T55 l1 x5_1).f4)) ∧ w'.cell? ⟨(ad429.add ((x5_1).toNat * 6)).block, (ad429.add ((x5_1).toNat * 6)).off + 5, none⟩ = some (.int .i64 ((rd_T55 l1 x5_1).f5))) (ds := []) #[false, false, false, false, false, false, false, false, false, false] k_ rfl rfl ⟨(cl HB hw428_0), (cl HB hw428_1), (cl HB hw428_2), (cl HB hw428_3), (cl HB hw428_4), (cl HB hw428_5), (cl HB hw429_0), (cl HB hw429_1), (cl HB hw429_2), (cl HB hw429_3), (cl HB hw429_4), (cl HB hw429_5)⟩ (fun hHeld => ?_); refine with_tabW laws_eqFactS.tab6 laws_eqFactS.bits6 (fun HT_ HW_ => ?_)
        generalize wr.drew = w9 at HB hx428_0 hx428_1 hx428_2 hx428_3 hx428_4 hx428_5 hx429_0 hx429_1 hx429_2 hx429_3 hx429_4 hx429_5 hHeld ⊢
        refine pu 0 17 ?_; refine pu 1 18 ?_; refine pu 2 19 ?_; refine pu 4 21 ?_; refine pu 5 22 ?_; refine pu 6 23 ?_; refine ta 3 20 ?_; refine ta 7 24 ?_
        refine on 8 (some 25) (fun K hK => ?_)
        refine goes_ Try.func69 k_ rfl #[.agg #[.int .i64 ((rd_T55 l0 x5_1).f0), .int .i64 ((rd_T55 l0 x5_1).f1), .int .i64 ((rd_T55 l0 x5_1).f2), .int .i64 ((rd_T55 l0 x5_1).f3), .int .i64 ((rd_T55 l0 x5_1).f4), .int .i64 ((rd_T55 l0 x5_1).f5)], .agg #[.int .i64 ((rd_T55 l1 x5_1).f0), .int .i64 ((rd_T55 l1 x5_1).f1), .int .i64 ((rd_T55 l1 x5_1).f2), .int .i64 ((rd_T55 l1 x5_1).f3), .int .i64 ((rd_T55 l1 x5_1).f4), .int .i64 ((rd_T55 l1 x5_1).f5)]] (by rfl) rfl rfl m_ ?_
        with_reducible refine (laws_eqFact.calls ((rd_T55 l0 x5_1).f0) ((rd_T55 l0 x5_1).f1) ((rd_T55 l0 x5_1).f2) ((rd_T55 l0 x5_1).f3) ((rd_T55 l0 x5_1).f4) ((rd_T55 l0 x5_1).f5) ((rd_T55 l1 x5_1).f0) ((rd_T55 l1 x5_1).f1) ((rd_T55 l1 x5_1).f2) ((rd_T55 l1 x5_1).f3) ((rd_T55 l1 x5_1).f4) ((rd_T55 l1 x5_1).f5) true _ A7.out).mono ?_
        rintro e w10 ⟨rfl, hb⟩
        refine ⟨_, rfl, ?_⟩
        replace HB := Aside0.mk (below_step h_ hb)
        (try clear hb)
        (try clear hb2)
        (try clear hk)
        (try clear hi)
        refine hK.out _ _ ⟨(cl HB hw428_0), (cl HB hw428_1), (cl HB hw428_2), (cl HB hw428_3), (cl HB hw428_4), (cl HB hw428_5), (cl HB hw429_0), (cl HB hw429_1), (cl HB hw429_2), (cl HB hw429_3), (cl HB hw429_4), (cl HB hw429_5)⟩ (fun hHeld => ?_)
        clear hK K; refine no 25 ?_; refine pu 9 26 ?_
        refine dn ?_
        try go_wp2
        go_roundg k1
        case measure => have := HK1.out; omega
        case rel => exact ⟨(wrap64 (x5_1 + 1)), r_, H', ⟨by have := HK1.out; omega⟩, ⟨h_⟩⟩
       ·replace c8 := Bool.eq_false_iff.mpr c8
        subst c8
        replace H := iF H
        obtain rfl := Option.some.inj H
        try go_wp2
        replace HB := Aside0.mk (below_drew1 HB.out)
        have p428 : 0 ≤ (x5_1 : Int) := of_decide_eq_true s_
        have q428 : x5_1 < (l0.length : Int) := of_decide_eq_true s_
        obtain ⟨ad428, e428, hx428_0, hx428_1, hx428_2, hx428_3, hx428_4, hx428_5⟩ := at_T55 HR0.out x5_1 p428 q428
        have hw428_5 := hx428_5; have hw428_4 := hx428_4; have hw428_3 := hx428_3; have hw428_2 := hx428_2; have hw428_1 := hx428_1; have hw428_0 := hx428_0
        cases e428
        replace hx428_0 := cl HB hx428_0; replace hx428_1 := cl HB hx428_1; replace hx428_2 := cl HB hx428_2; replace hx428_3 := cl HB hx428_3; replace hx428_4 := cl HB hx428_4; replace hx428_5 := cl HB hx428_5
        replace p428 := eq_true p428
        replace q428 := eq_true q428
        have p429 : 0 ≤ (x5_1 : Int) := of_decide_eq_true s_
        have q429 : x5_1 < (l1.length : Int) := of_decide_eq_true s_
        obtain ⟨ad429, e429, hx429_0, hx429_1, hx429_2, hx429_3, hx429_4, hx429_5⟩ := at_T55 HR1.out x5_1 p429 q429
        have hw429_5 := hx429_5; have hw429_4 := hx429_4; have hw429_3 := hx429_3; have hw429_2 := hx429_2; have hw429_1 := hx429_1; have hw429_0 := hx429_0
        cases e429
        replace hx429_0 := cl HB hx429_0; replace hx429_1 := cl HB hx429_1; replace hx429_2 := cl HB hx429_2; replace hx429_3 := cl HB hx429_3; replace hx429_4 := cl HB hx429_4; replace hx429_5 := cl HB hx429_5
        replace p429 := eq_true p429
        replace q429 := eq_true q429
        refine start_ (n := 10) (S := fun w' => w'.cell? (ad428.add ((x5_1).toNat * 6)) = some (.int .i64 ((rd_T55 l0 x5_1).f0)) ∧ w'.cell? ⟨(ad428.add ((x5_1).toNat * 6)).block, (ad428.add ((x5_1).toNat * 6)).off + 1, none⟩ = some (.int .i64 ((rd_T55 l0 x5_1).f1)) ∧ w'.cell? ⟨(ad428.add ((x5_1).toNat * 6)).block, (ad428.add ((x5_1).toNat * 6)).off + 2, none⟩ = some (.int .i64 ((rd_T55 l0 x5_1).f2)) ∧ w'.cell? ⟨(ad428.add ((x5_1).toNat * 6)).block, (ad428.add ((x5_1).toNat * 6)).off + 3, none⟩ = some (.int .i64 ((rd_T55 l0 x5_1).f3)) ∧ w'.cell? ⟨(ad428.add ((x5_1).toNat * 6)).block, (ad428.add ((x5_1).toNat * 6)).off + 4, none⟩ = some (.int .i64 ((rd_T55 l0 x5_1).f4)) ∧ w'.cell? ⟨(ad428.add ((x5_1).toNat * 6)).block, (ad428.add ((x5_1).toNat * 6)).off + 5, none⟩ = some (.int .i64 ((rd_T55 l0 x5_1).f5)) ∧ w'.cell? (ad429.add ((x5_1).toNat * 6)) = some (.int .i64 ((rd_T55 l1 x5_1).f0)) ∧ w'.cell? ⟨(ad429.add ((x5_1).toNat * 6)).block, (ad429.add ((x5_1).toNat * 6)).off + 1, none⟩ = some (.int .i64 ((rd_T55 l1 x5_1).f1)) ∧ w'.cell? ⟨(ad429.add ((x5_1).toNat * 6)).block, (ad429.add ((x5_1).toNat * 6)).off + 2, none⟩ = some (.int .i64 ((rd_T55 l1 x5_1).f2)) ∧ w'.cell? ⟨(ad429.add ((x5_1).toNat * 6)).block, (ad429.add ((x5_1).toNat * 6)).off + 3, none⟩ = some (.int .i64 ((rd_T55 l1 x5_1).f3)) ∧ w'.cell? ⟨(ad429.add ((x5_1).toNat * 6)).block, (ad429.add ((x5_1).toNat * 6)).off + 4, none⟩ = some (.int .i64 ((rd_T55 l1 x5_1).f4)) ∧ w'.cell? ⟨(ad429.add ((x5_1).toNat * 6)).block, (ad429.add ((x5_1).toNat * 6)).off + 5, none⟩ = some (.int .i64 ((rd_T55 l1 x5_1).f5))) (ds := []) #[false, false, false, false, false, false, false, false, false, false] k_ rfl rfl ⟨(cl HB hw428_0), (cl HB hw428_1), (cl HB hw428_2), (cl HB hw428_3), (cl HB hw428_4), (cl HB hw428_5), (cl HB hw429_0), (cl HB hw429_1), (cl HB hw429_2), (cl HB hw429_3), (cl HB hw429_4), (cl HB hw429_5)⟩ (fun hHeld => ?_); refine with_tabW laws_eqFactS.tab6 laws_eqFactS.bits6 (fun HT_ HW_ => ?_)
        generalize wr.drew = w11 at HB hx428_0 hx428_1 hx428_2 hx428_3 hx428_4 hx428_5 hx429_0 hx429_1 hx429_2 hx429_3 hx429_4 hx429_5 hHeld ⊢
        refine pu 0 17 ?_; refine pu 1 18 ?_; refine pu 2 19 ?_; refine pu 4 21 ?_; refine pu 5 22 ?_; refine pu 6 23 ?_; refine ta 3 20 ?_; refine ta 7 24 ?_
        refine on 8 (some 25) (fun K hK => ?_)
        refine goes_ Try.func69 k_ rfl #[.agg #[.int .i64 ((rd_T55 l0 x5_1).f0), .int .i64 ((rd_T55 l0 x5_1).f1), .int .i64 ((rd_T55 l0 x5_1).f2), .int .i64 ((rd_T55 l0 x5_1).f3), .int .i64 ((rd_T55 l0 x5_1).f4), .int .i64 ((rd_T55 l0 x5_1).f5)], .agg #[.int .i64 ((rd_T55 l1 x5_1).f0), .int .i64 ((rd_T55 l1 x5_1).f1), .int .i64 ((rd_T55 l1 x5_1).f2), .int .i64 ((rd_T55 l1 x5_1).f3), .int .i64 ((rd_T55 l1 x5_1).f4), .int .i64 ((rd_T55 l1 x5_1).f5)]] (by rfl) rfl rfl m_ ?_
        with_reducible refine (laws_eqFact.calls ((rd_T55 l0 x5_1).f0) ((rd_T55 l0 x5_1).f1) ((rd_T55 l0 x5_1).f2) ((rd_T55 l0 x5_1).f3) ((rd_T55 l0 x5_1).f4) ((rd_T55 l0 x5_1).f5) ((rd_T55 l1 x5_1).f0) ((rd_T55 l1 x5_1).f1) ((rd_T55 l1 x5_1).f2) ((rd_T55 l1 x5_1).f3) ((rd_T55 l1 x5_1).f4) ((rd_T55 l1 x5_1).f5) false _ A7.out).mono ?_
        rintro e w12 ⟨rfl, hb⟩
        refine ⟨_, rfl, ?_⟩
        replace HB := Aside0.mk (below_step h_ hb)
        (try clear hb)
        (try clear hb2)
        (try clear hk)
        (try clear hi)
        refine hK.out _ _ ⟨(cl HB hw428_0), (cl HB hw428_1), (cl HB hw428_2), (cl HB hw428_3), (cl HB hw428_4), (cl HB hw428_5), (cl HB hw429_0), (cl HB hw429_1), (cl HB hw429_2), (cl HB hw429_3), (cl HB hw429_4), (cl HB hw429_5)⟩ (fun hHeld => ?_)
        clear hK K; refine no 25 ?_; refine pu 9 26 ?_
        refine dn ?_
        try go_wp2
        go_ret
        exact ⟨e_, h_⟩
      ·rw [if_neg c6] at H
       exact absurd H (by simp)
     ·rw [if_neg c5] at H
      exact absurd H (by simp)
    ·rw [if_neg c4] at H
     have c4b0 : decide (x5_1 < (l0.length : Int)) = false := decide_eq_false c4
     clear c4
     obtain rfl := Option.some.inj H
     go_wp2
     go_ret
     exact ⟨e_, h_⟩
 ·rw [if_neg c3] at H
  have c3b0 : ((l0.length : Int) == (l1.length : Int)) = false := beq_eq_false_iff_ne.mpr c3
  have c3b1 : ((l0.length : Int) != (l1.length : Int)) = true := bne_iff_ne.mpr c3
  have c3b2 : (l0.length == l1.length) = false := by first | simpa using c3 | (simp at c3 ⊢; omega)
  obtain rfl := Option.some.inj H
  go_enter Try.func23, Try.ntmps23
  go_wp2
  go_ret
  exact ⟨e_, h_⟩

/-! ### laws_eqIntS: function 78 -/
def laws_eqIntS.l0 : Nat → List Int → List Int → Int → Option (Bool)
 | 0, _, _, _ => none
 | k + 1, x0, x1, x5 => if x5 < (x0.length : Int) then (if 0 ≤ x5 then (if x5 < (x1.length : Int) then (if (rd x0 x5) = (rd x1 x5) then (laws_eqIntS.l0 k x0 x1 (wrap64 (x5 + 1))) else (some false)) else (none)) else (none)) else (some true)
def laws_eqIntS.f (k : Nat) (l0 : List Int) (l1 : List Int) : Option (Bool) := if (l0.length : Int) = (l1.length : Int) then (laws_eqIntS.l0 k l0 l1 0) else (some false)
set_option maxHeartbeats 8000000 in
set_option maxRecDepth 100000 in
theorem laws_eqIntS.calls (k : Nat) (A0 : Option Addr) (c0 : Nat) (l0 : List Int) (A1 : Option Addr) (c1 : Nat) (l1 : List Int) (r : Bool) (w : World) (hr0 : Kd.C (Kd.int .i64) w A0 l0.length l0) (hc0 : l0.length ≤ c0) (hr1 : Kd.C (Kd.int .i64) w A1 l1.length l1) (hc1 : l1.length ≤ c1) (h : laws_eqIntS.f k l0 l1 = some r) :
  Calls Try.prog 78 #[.slice A0 l0.length c0, .slice A1 l1.length c1] w fun e w' => e = .returned (.bool r) ∧ Drawn0 w w' := by
 have HR0 := Aside0.mk hr0
 have HC0 := Aside0.mk hc0
 clear hr0 hc0
 have HR1 := Aside0.mk hr1
 have HC1 := Aside0.mk hc1
 clear hr1 hc1
 have H : (if (l0.length : Int) = (l1.length : Int) then (laws_eqIntS.l0 k l0 l1 0) else (some false)) = some r := h
 clear h
 by_cases c3 : (l0.length : Int) = (l1.length : Int)
 ·rw [if_pos c3] at H
  have c3b0 : ((l0.length : Int) == (l1.length : Int)) = true := beq_iff_eq.mpr c3
  have c3b1 : ((l0.length : Int) != (l1.length : Int)) = false := bne_eq_false_iff_eq.mpr c3
  have c3b2 : (l0.length == l1.length) = true := by first | simpa using c3 | (simp at c3 ⊢; omega)
  clear c3
  have H' := Aside0.mk H
  clear H
  go_enter Try.func78, Try.ntmps78
  go_wp2
  repeat (go_quiet (fail); try go_wp2)
  go_loopg [5] k (fun kq v5 w' => ∃ (x5_1 : Int), v5 = .int .i64 x5_1 ∧ Aside0 (laws_eqIntS.l0 kq l0 l1 x5_1 = some r) ∧ Aside0 (kq ≤ k) ∧ Drawn0 w w')
  case atStart => exact ⟨(0), r_, H', ⟨Nat.le_refl _⟩, by repeat (first | exact Drawn0.refl _ | apply Drawn0.step)⟩
  case round =>
   clear H'; try clear c1; try clear p2; try clear c3; try clear c3b0; try clear c3b1; try clear c3b2
   obtain ⟨x5_1, rfl, HA, HK1, ⟨m1, rfl⟩⟩ := hrel
   cases gk with
   | zero => exact absurd HA.out (by simp [laws_eqIntS.l0])
   | succ k1 =>
    have H := HA.out
    clear HA
    simp only [laws_eqIntS.l0] at H
    by_cases c4 : x5_1 < (l0.length : Int)
    ·rw [if_pos c4] at H
     have c4b0 : decide (x5_1 < (l0.length : Int)) = true := decide_eq_true c4
     clear c4
     by_cases c5 : 0 ≤ x5_1
     ·rw [if_pos c5] at H
      have c5b0 : decide (0 ≤ x5_1) = true := decide_eq_true c5
      clear c5
      by_cases c6 : x5_1 < (l1.length : Int)
      ·rw [if_pos c6] at H
       have c6b0 : decide (x5_1 < (l1.length : Int)) = true := decide_eq_true c6
       clear c6
       by_cases c7 : (rd l0 x5_1) = (rd l1 x5_1)
       ·rw [if_pos c7] at H
        have c7b0 : ((rd l0 x5_1) == (rd l1 x5_1)) = true := beq_iff_eq.mpr c7
        have c7b1 : ((rd l0 x5_1) != (rd l1 x5_1)) = false := bne_eq_false_iff_eq.mpr c7
        clear c7
        have H' := Aside0.mk H
        clear H
        have p431 : 0 ≤ (x5_1 : Int) := of_decide_eq_true s_
        have q431 : x5_1 < (l0.length : Int) := of_decide_eq_true s_
        obtain ⟨ad431, e431, hx431_0⟩ := Kd.at_int HR0.out x5_1 p431 q431
        cases e431
        replace p431 := eq_true p431
        replace q431 := eq_true q431
        have p432 : 0 ≤ (x5_1 : Int) := of_decide_eq_true s_
        have q432 : x5_1 < (l1.length : Int) := of_decide_eq_true s_
        obtain ⟨ad432, e432, hx432_0⟩ := Kd.at_int HR1.out x5_1 p432 q432
        cases e432
        replace p432 := eq_true p432
        replace q432 := eq_true q432
        go_wp2
        repeat (go_quiet (fail); try go_wp2)
        go_roundg k1
        case measure => have := HK1.out; omega
        case rel => exact ⟨(wrap64 (x5_1 + 1)), r_, H', ⟨by have := HK1.out; omega⟩, by repeat (first | exact Drawn0.refl _ | apply Drawn0.step)⟩
       ·rw [if_neg c7] at H
        have c7b0 : ((rd l0 x5_1) == (rd l1 x5_1)) = false := beq_eq_false_iff_ne.mpr c7
        have c7b1 : ((rd l0 x5_1) != (rd l1 x5_1)) = true := bne_iff_ne.mpr c7
        obtain rfl := Option.some.inj H
        have p431 : 0 ≤ (x5_1 : Int) := of_decide_eq_true s_
        have q431 : x5_1 < (l0.length : Int) := of_decide_eq_true s_
        obtain ⟨ad431, e431, hx431_0⟩ := Kd.at_int HR0.out x5_1 p431 q431
        cases e431
        replace p431 := eq_true p431
        replace q431 := eq_true q431
        have p432 : 0 ≤ (x5_1 : Int) := of_decide_eq_true s_
        have q432 : x5_1 < (l1.length : Int) := of_decide_eq_true s_
        obtain ⟨ad432, e432, hx432_0⟩ := Kd.at_int HR1.out x5_1 p432 q432
        cases e432
        replace p432 := eq_true p432
        replace q432 := eq_true q432
        go_wp2
        repeat (go_quiet (fail); try go_wp2)
        go_ret
        exact ⟨r_, by repeat (first | exact Drawn0.refl _ | apply Drawn0.step)⟩
      ·rw [if_neg c6] at H
       exact absurd H (by simp)
     ·rw [if_neg c5] at H
      exact absurd H (by simp)
    ·rw [if_neg c4] at H
     have c4b0 : decide (x5_1 < (l0.length : Int)) = false := decide_eq_false c4
     clear c4
     obtain rfl := Option.some.inj H
     go_wp2
     repeat (go_quiet (fail); try go_wp2)
     go_ret
     exact ⟨r_, by repeat (first | exact Drawn0.refl _ | apply Drawn0.step)⟩
 ·rw [if_neg c3] at H
  have c3b0 : ((l0.length : Int) == (l1.length : Int)) = false := beq_eq_false_iff_ne.mpr c3
  have c3b1 : ((l0.length : Int) != (l1.length : Int)) = true := bne_iff_ne.mpr c3
  have c3b2 : (l0.length == l1.length) = false := by first | simpa using c3 | (simp at c3 ⊢; omega)
  obtain rfl := Option.some.inj H
  go_enter Try.func78, Try.ntmps78
  go_wp2
  repeat (go_quiet (fail); try go_wp2)
  go_ret
  exact ⟨r_, by repeat (first | exact Drawn0.refl _ | apply Drawn0.step)⟩

end Go.Proofs.Ytabpgiebhgkfhaa.XFnExactTakeStated
