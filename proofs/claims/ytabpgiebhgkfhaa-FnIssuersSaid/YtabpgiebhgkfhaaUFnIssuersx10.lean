/- Written by this session's own program (wip/xprint, which runs over the kit's print): what the functions that the law reaches come to, each proved; and the law's row. Conditions: none. -/
import Derived.Test.YtabpgiebhgkfhaaUFnIssuersSq
import Derived.Test.YtabpgiebhgkfhaaUFnIssuersx0
import Derived.Test.YtabpgiebhgkfhaaUFnIssuersx5
import Derived.Test.YtabpgiebhgkfhaaUFnIssuersx9
namespace Go.Proofs.Ytabpgiebhgkfhaa.XFnIssuers
open Go.RowKit Go.Proofs.YtabpgiebhgkfhaaW.PrintWords Go.Proofs.YtabpgiebhgkfhaaW.PrintLast Go.Proofs.YtabpgiebhgkfhaaW.PrintMore Go.Proofs.YtabpgiebhgkfhaaSq
attribute [local go_sem] max2_int min2_int max_two min_two max_three min_three max_four min_four   -- for this text's walks alone
set_option linter.unusedVariables false
set_option linter.unusedSimpArgs false

/-! ### impl_TakeStated: function 22 -/
def impl_TakeStated.l0 : Nat → List (S48) → List (S55) → Int → List (S76) → Int → Int → Option ((List (S55)) × Int)
 | 0, _, _, _, _, _, _ => none
 | k + 1, x0, x8, x9, x16, x17, x18 => if x18 < x17 then (if 0 ≤ x18 then (if x18 < (x16.length : Int) then ((impl_IsBelieved.f k x0 ((rd_T76 x16 x18).f0.f0) ((rd_T76 x16 x18).f0.f1) ((rd_T76 x16 x18).f0.f2) ((rd_T76 x16 x18).f0.f3) ((rd_T76 x16 x18).f0.f4) ((rd_T76 x16 x18).f0.f5) ((rd_T76 x16 x18).f1)).bind fun t223 => (if t223 = true then ((impl_PutFact.f k x8 ((rd_T76 x16 x18).f0.f0) ((rd_T76 x16 x18).f0.f1) ((rd_T76 x16 x18).f0.f2) ((rd_T76 x16 x18).f0.f3) ((rd_T76 x16 x18).f0.f4) ((rd_T76 x16 x18).f0.f5)).bind fun bt224 => (if bt224.2 = true then (impl_TakeStated.l0 k x0 bt224.1 (wrap64 (x9 + 1)) x16 x17 (wrap64 (x18 + 1))) else (impl_TakeStated.l0 k x0 x8 x9 x16 x17 (wrap64 (x18 + 1))))) else (impl_TakeStated.l0 k x0 x8 x9 x16 x17 (wrap64 (x18 + 1))))) else (none)) else (none)) else (some (x8, x9))
def impl_TakeStated.f (k : Nat) (l0 : List (S48)) (l1 : List (S55)) (l2 : List (S76)) : Option ((List (S55)) × Int) := (impl_copyFacts.f l1).bind fun t218 => (impl_TakeStated.l0 k l0 t218 0 l2 (l2.length : Int) 0)
theorem z22_0 {Q : Prop} (g : Q := by (with_reducible repeat (first | apply Kd.R_alloc | apply Kd.R_drewN | apply Kd.R_drew)); exact (Kd.R_mono (Kd.R_far (p := ⟨gb222, 6, none⟩) (Kd.R_far (p := ⟨gb222, 5, none⟩) (Kd.R_far (p := ⟨gb222, 4, none⟩) (Kd.R_far (p := ⟨gb222, 3, none⟩) (Kd.R_far (p := ⟨gb222, 2, none⟩) (Kd.R_far (p := ⟨gb222, 1, none⟩) (Kd.R_far (p := ⟨gb222, 0, none⟩) (Kd.R_types HO_8.out BK222.out (by decide)) (fun _ hk => hk.2) (.int .i64 ((rd_T76 l2 x18_1).f0.f0))) (fun _ hk => hk.2) (.int .i64 ((rd_T76 l2 x18_1).f0.f1))) (fun _ hk => hk.2) (.int .i64 ((rd_T76 l2 x18_1).f0.f2))) (fun _ hk => hk.2) (.int .i64 ((rd_T76 l2 x18_1).f0.f3))) (fun _ hk => hk.2) (.int .i64 ((rd_T76 l2 x18_1).f0.f4))) (fun _ hk => hk.2) (.int .i64 ((rd_T76 l2 x18_1).f0.f5))) (fun _ hk => hk.2) (.int .i64 ((rd_T76 l2 x18_1).f1))) (fun _ h_ => h_.1))) : Q := g
set_option maxHeartbeats 8000000 in
set_option maxRecDepth 100000 in
theorem impl_TakeStated.calls (k : Nat) (A0 : Option Addr) (c0 : Nat) (l0 : List (S48)) (A1 : Option Addr) (c1 : Nat) (l1 : List (S55)) (A2 : Option Addr) (c2 : Nat) (l2 : List (S76)) (r1 : List (S55)) (r2 : Int) (w : World) (hr0 : Kd.C k48 w A0 l0.length l0) (hc0 : l0.length ≤ c0) (hr1 : Kd.C k55 w A1 l1.length l1) (hc1 : l1.length ≤ c1) (hr2 : Kd.C k76 w A2 l2.length l2) (hc2 : l2.length ≤ c2) (h : impl_TakeStated.f k l0 l1 l2 = some (r1, r2)) :
  Calls Try.prog 22 #[.slice A0 l0.length c0, .slice A1 l1.length c1, .slice A2 l2.length c2] w fun e w' => ∃ v0_ : Value, e = .returned (.tuple #[v0_, .int .i64 r2]) ∧ Kd.R k55 55 w' w.heap.size (fun _ => True) v0_ r1 ∧ Below w.heap.size w w' := by
 have hu76 := Try.underlying76
 have hu55 := Try.underlying55
 have HR0 := As_.mk hr0
 have HC0 := As_.mk hc0
 clear hr0 hc0
 have HR1 := As_.mk hr1
 have HC1 := As_.mk hc1
 clear hr1 hc1
 have HR2 := As_.mk hr2
 have HC2 := As_.mk hc2
 clear hr2 hc2
 have HB := As_.mk (Below.refl w.heap.size w)
 have H : ((impl_copyFacts.f l1).bind fun t218 => (impl_TakeStated.l0 k l0 t218 0 l2 (l2.length : Int) 0)) = some (r1, r2) := h
 clear h
 obtain ⟨t218, A4, H⟩ := bA H
 have H' := As_.mk H
 clear H
 go_enter Try.func22, Try.ntmps22
 go_wp2_with (first | ((with_reducible refine gate_callee (f := 67) rfl ?_); refine goesL_ (some 15) rfl rfl Try.func67 sqk rfl #[.slice A1 l1.length c1] rfl sqm ?_; (with_reducible refine (impl_copyFacts.calls _ _ l1 t218 _ ?side1 ?side2 A4.out).mono ?_); (case side1 => repeat (first | exact HR1.out | (with_reducible refine Kd.C_alloc ?_ _) | (with_reducible refine Kd.C_drewN ?_ _) | (with_reducible refine Kd.C_drew ?_))); (case side2 => exact HC1.out); rintro e w5 ⟨v219, rfl, ho0, hb⟩; refine ⟨_, rfl, ?_⟩; have HO220 := As_.mk (Kd.R_lower ho0 (below_size sqh)); replace HB := As_.mk (below_step sqh hb); (try clear hb); (try clear ho0)))
 go_loopg [8, 9, 18] k (fun kq v8 v9 v18 w' => ∃ (x8_1 : List (S55)) (x9_1 : Int) (x18_1 : Int), v9 = .int .i64 x9_1 ∧ v18 = .int .i64 x18_1 ∧ As_ (impl_TakeStated.l0 kq l0 x8_1 x9_1 l2 (l2.length : Int) x18_1 = some (r1, r2)) ∧ As_ (kq ≤ k) ∧ As_ (Kd.R k55 55 w' w.heap.size (fun _ => True) v8 x8_1) ∧ As_ (Below w.heap.size w w'))
 case atStart => exact ⟨(t218), (0), (0), sqr, sqr, H', ⟨Nat.le_refl _⟩, ⟨by (with_reducible repeat (first | apply Kd.R_alloc | apply Kd.R_drewN | apply Kd.R_drew)); exact HO220.out⟩, ⟨sqh⟩⟩
 case round =>
  clear H'; try clear c1; try clear c2; try clear p2
  obtain ⟨x8_1, x9_1, x18_1, rfl, rfl, HA, HK1, HO_8, HB⟩ := hrel
  cases gk with
  | zero => exact absurd HA.out (by simp [impl_TakeStated.l0])
  | succ k1 =>
   have H := HA.out
   clear HA
   simp only [impl_TakeStated.l0] at H
   by_cases c6 : x18_1 < (l2.length : Int)
   ·rw [if_pos c6] at H
    have c6b0 : decide (x18_1 < (l2.length : Int)) = true := decide_eq_true c6
    clear c6
    by_cases c7 : 0 ≤ x18_1
    ·rw [if_pos c7] at H
     have c7b0 : decide (0 ≤ x18_1) = true := decide_eq_true c7
     clear c7
     by_cases c8 : x18_1 < (l2.length : Int)
     ·rw [if_pos c8] at H
      have c8b0 : decide (x18_1 < (l2.length : Int)) = true := decide_eq_true c8
      clear c8
      obtain ⟨t223, A9, H⟩ := bA H
      by_cases c10 : t223 = true
      ·subst c10
       replace H := iT H
       obtain ⟨⟨t224, t227⟩, A11, H⟩ := bA H
       dsimp only at H
       by_cases c12 : t227 = true
       ·subst c12
        replace H := iT H
        have H' := As_.mk H
        clear H
        have p221 : 0 ≤ (x18_1 : Int) := of_decide_eq_true sqs
        have q221 : x18_1 < (l2.length : Int) := of_decide_eq_true sqs
        obtain ⟨ad221, e221, hx221_0, hx221_1, hx221_2, hx221_3, hx221_4, hx221_5, hx221_6⟩ := at_T76 HR2.out x18_1 p221 q221
        cases e221
        replace hx221_0 := cl HB hx221_0; replace hx221_1 := cl HB hx221_1; replace hx221_2 := cl HB hx221_2; replace hx221_3 := cl HB hx221_3; replace hx221_4 := cl HB hx221_4; replace hx221_5 := cl HB hx221_5; replace hx221_6 := cl HB hx221_6
        replace p221 := eq_true p221
        replace q221 := eq_true q221
        go_wp2_with (first | ((with_reducible refine gate_dst (N := 11) rfl ?_); refine bx (N := 11) (cs := #[.int .i64 0, .int .i64 0, .int .i64 0, .int .i64 0, .int .i64 0, .int .i64 0, .int .i64 0]) (t := 76) ?_; intro gb222 hg w13 hbox hb; replace HO_8 := As_.mk (Kd.R_below (sqq HO_8.out) hb); have BK222 := As_.mk (hbox); have GW222 := As_.mk ((by rw [hg]; exact (below_size sqh) : w.heap.size ≤ gb222)); have GE222 := As_.mk ((by rw [hg]; exact (below_size sqh) : w.heap.size ≤ gb222)); replace HB := As_.mk (below_step sqh hb); clear hb hbox hg; obtain ⟨hcz14_0, hcz14_1, hcz14_2, hcz14_3, hcz14_4, hcz14_5, hcz14_6, hfz14_0, hfz14_1, hfz14_2, hfz14_3, hfz14_4, hfz14_5, hfz14_6⟩ := sd7 BK222.out) | ((with_reducible refine gate_callee (f := 57) rfl ?_); refine goesL_ (some 24) rfl rfl Try.func57 sqk rfl #[.slice A0 l0.length c0, .agg #[.int .i64 ((rd_T76 l2 x18_1).f0.f0), .int .i64 ((rd_T76 l2 x18_1).f0.f1), .int .i64 ((rd_T76 l2 x18_1).f0.f2), .int .i64 ((rd_T76 l2 x18_1).f0.f3), .int .i64 ((rd_T76 l2 x18_1).f0.f4), .int .i64 ((rd_T76 l2 x18_1).f0.f5), .int .i64 ((rd_T76 l2 x18_1).f1)]] rfl sqm ?_; (with_reducible refine (impl_IsBelieved.calls k1 _ _ l0 ((rd_T76 l2 x18_1).f0.f0) ((rd_T76 l2 x18_1).f0.f1) ((rd_T76 l2 x18_1).f0.f2) ((rd_T76 l2 x18_1).f0.f3) ((rd_T76 l2 x18_1).f0.f4) ((rd_T76 l2 x18_1).f0.f5) ((rd_T76 l2 x18_1).f1) true _ ?side1 ?side2 A9.out).mono ?_); (case side1 => exact Kd.C_below HR0.out sqh); (case side2 => exact HC0.out); rintro e w15 ⟨rfl, hb⟩; refine ⟨_, rfl, ?_⟩; replace HO_8 := As_.mk (Kd.R_below z22_0 hb); replace BK222 := As_.mk (blk_below (g := gb222) (o := .cells #[.int .i64 ((rd_T76 l2 x18_1).f0.f0), .int .i64 ((rd_T76 l2 x18_1).f0.f1), .int .i64 ((rd_T76 l2 x18_1).f0.f2), .int .i64 ((rd_T76 l2 x18_1).f0.f3), .int .i64 ((rd_T76 l2 x18_1).f0.f4), .int .i64 ((rd_T76 l2 x18_1).f0.f5), .int .i64 ((rd_T76 l2 x18_1).f1)] 76 (0, 0)) (bp BK222) hb); replace HB := As_.mk (below_step sqh hb); (try clear hb); obtain ⟨hcz16_0, hcz16_1, hcz16_2, hcz16_3, hcz16_4, hcz16_5, hcz16_6, hfz16_0, hfz16_1, hfz16_2, hfz16_3, hfz16_4, hfz16_5, hfz16_6⟩ := sd7 BK222.out; obtain ⟨Ao17, co17, eo17⟩ := Kd.R_slice HO_8.out; subst eo17) | ((with_reducible refine gate_callee (f := 68) rfl ?_); refine goesL_ (some 30) rfl rfl Try.func68 sqk rfl #[.slice Ao17 x8_1.length co17, .agg #[.int .i64 ((rd_T76 l2 x18_1).f0.f0), .int .i64 ((rd_T76 l2 x18_1).f0.f1), .int .i64 ((rd_T76 l2 x18_1).f0.f2), .int .i64 ((rd_T76 l2 x18_1).f0.f3), .int .i64 ((rd_T76 l2 x18_1).f0.f4), .int .i64 ((rd_T76 l2 x18_1).f0.f5)]] rfl sqm ?_; (with_reducible refine (impl_PutFact.calls k1 _ _ x8_1 ((rd_T76 l2 x18_1).f0.f0) ((rd_T76 l2 x18_1).f0.f1) ((rd_T76 l2 x18_1).f0.f2) ((rd_T76 l2 x18_1).f0.f3) ((rd_T76 l2 x18_1).f0.f4) ((rd_T76 l2 x18_1).f0.f5) t224 true _ ?side1 ?side2 A11.out).mono ?_); (case side1 => repeat (first | exact (Kd.R_reads' HO_8.out).2.2 | (with_reducible refine Kd.C_alloc ?_ _) | (with_reducible refine Kd.C_drewN ?_ _) | (with_reducible refine Kd.C_drew ?_))); (case side2 => exact (Kd.R_reads' HO_8.out).2.1); rintro e w18 ⟨v225, rfl, ho0, hb⟩; refine ⟨_, rfl, ?_⟩; have HO226 := As_.mk (Kd.R_lower (Kd.R_new' ho0 (Kd.R_lt (sqq HO_8.out))) (below_size sqh)); replace HO_8 := As_.mk (Kd.R_elder' (sqq HO_8.out) (Kd.R_base ho0) hb); replace BK222 := As_.mk (blk_below (bo BK222) hb); replace HB := As_.mk (below_step sqh hb); (try clear hb); (try clear ho0)))
        go_roundg k1
        case measure => have := HK1.out; omega
        case rel => exact ⟨(t224), (wrap64 (x9_1 + 1)), (wrap64 (x18_1 + 1)), sqr, sqr, H', ⟨by have := HK1.out; omega⟩, ⟨by (with_reducible repeat (first | apply Kd.R_alloc | apply Kd.R_drewN | apply Kd.R_drew)); exact Kd.R_mono HO226.out (fun _ hk => trivial)⟩, ⟨sqh⟩⟩
       ·replace c12 := Bool.eq_false_iff.mpr c12
        subst c12
        replace H := iF H
        have H' := As_.mk H
        clear H
        have p221 : 0 ≤ (x18_1 : Int) := of_decide_eq_true sqs
        have q221 : x18_1 < (l2.length : Int) := of_decide_eq_true sqs
        obtain ⟨ad221, e221, hx221_0, hx221_1, hx221_2, hx221_3, hx221_4, hx221_5, hx221_6⟩ := at_T76 HR2.out x18_1 p221 q221
        cases e221
        replace hx221_0 := cl HB hx221_0; replace hx221_1 := cl HB hx221_1; replace hx221_2 := cl HB hx221_2; replace hx221_3 := cl HB hx221_3; replace hx221_4 := cl HB hx221_4; replace hx221_5 := cl HB hx221_5; replace hx221_6 := cl HB hx221_6
        replace p221 := eq_true p221
        replace q221 := eq_true q221
        go_wp2_with (first | ((with_reducible refine gate_dst (N := 11) rfl ?_); refine bx (N := 11) (cs := #[.int .i64 0, .int .i64 0, .int .i64 0, .int .i64 0, .int .i64 0, .int .i64 0, .int .i64 0]) (t := 76) ?_; intro gb222 hg w19 hbox hb; replace HO_8 := As_.mk (Kd.R_below (sqq HO_8.out) hb); have BK222 := As_.mk (hbox); have GW222 := As_.mk ((by rw [hg]; exact (below_size sqh) : w.heap.size ≤ gb222)); have GE222 := As_.mk ((by rw [hg]; exact (below_size sqh) : w.heap.size ≤ gb222)); replace HB := As_.mk (below_step sqh hb); clear hb hbox hg; obtain ⟨hcz20_0, hcz20_1, hcz20_2, hcz20_3, hcz20_4, hcz20_5, hcz20_6, hfz20_0, hfz20_1, hfz20_2, hfz20_3, hfz20_4, hfz20_5, hfz20_6⟩ := sd7 BK222.out) | ((with_reducible refine gate_callee (f := 57) rfl ?_); refine goesL_ (some 24) rfl rfl Try.func57 sqk rfl #[.slice A0 l0.length c0, .agg #[.int .i64 ((rd_T76 l2 x18_1).f0.f0), .int .i64 ((rd_T76 l2 x18_1).f0.f1), .int .i64 ((rd_T76 l2 x18_1).f0.f2), .int .i64 ((rd_T76 l2 x18_1).f0.f3), .int .i64 ((rd_T76 l2 x18_1).f0.f4), .int .i64 ((rd_T76 l2 x18_1).f0.f5), .int .i64 ((rd_T76 l2 x18_1).f1)]] rfl sqm ?_; (with_reducible refine (impl_IsBelieved.calls k1 _ _ l0 ((rd_T76 l2 x18_1).f0.f0) ((rd_T76 l2 x18_1).f0.f1) ((rd_T76 l2 x18_1).f0.f2) ((rd_T76 l2 x18_1).f0.f3) ((rd_T76 l2 x18_1).f0.f4) ((rd_T76 l2 x18_1).f0.f5) ((rd_T76 l2 x18_1).f1) true _ ?side1 ?side2 A9.out).mono ?_); (case side1 => exact Kd.C_below HR0.out sqh); (case side2 => exact HC0.out); rintro e w21 ⟨rfl, hb⟩; refine ⟨_, rfl, ?_⟩; replace HO_8 := As_.mk (Kd.R_below z22_0 hb); replace BK222 := As_.mk (blk_below (g := gb222) (o := .cells #[.int .i64 ((rd_T76 l2 x18_1).f0.f0), .int .i64 ((rd_T76 l2 x18_1).f0.f1), .int .i64 ((rd_T76 l2 x18_1).f0.f2), .int .i64 ((rd_T76 l2 x18_1).f0.f3), .int .i64 ((rd_T76 l2 x18_1).f0.f4), .int .i64 ((rd_T76 l2 x18_1).f0.f5), .int .i64 ((rd_T76 l2 x18_1).f1)] 76 (0, 0)) (bp BK222) hb); replace HB := As_.mk (below_step sqh hb); (try clear hb); obtain ⟨hcz22_0, hcz22_1, hcz22_2, hcz22_3, hcz22_4, hcz22_5, hcz22_6, hfz22_0, hfz22_1, hfz22_2, hfz22_3, hfz22_4, hfz22_5, hfz22_6⟩ := sd7 BK222.out; obtain ⟨Ao23, co23, eo23⟩ := Kd.R_slice HO_8.out; subst eo23) | ((with_reducible refine gate_callee (f := 68) rfl ?_); refine goesL_ (some 30) rfl rfl Try.func68 sqk rfl #[.slice Ao23 x8_1.length co23, .agg #[.int .i64 ((rd_T76 l2 x18_1).f0.f0), .int .i64 ((rd_T76 l2 x18_1).f0.f1), .int .i64 ((rd_T76 l2 x18_1).f0.f2), .int .i64 ((rd_T76 l2 x18_1).f0.f3), .int .i64 ((rd_T76 l2 x18_1).f0.f4), .int .i64 ((rd_T76 l2 x18_1).f0.f5)]] rfl sqm ?_; (with_reducible refine (impl_PutFact.calls k1 _ _ x8_1 ((rd_T76 l2 x18_1).f0.f0) ((rd_T76 l2 x18_1).f0.f1) ((rd_T76 l2 x18_1).f0.f2) ((rd_T76 l2 x18_1).f0.f3) ((rd_T76 l2 x18_1).f0.f4) ((rd_T76 l2 x18_1).f0.f5) t224 false _ ?side1 ?side2 A11.out).mono ?_); (case side1 => repeat (first | exact (Kd.R_reads' HO_8.out).2.2 | (with_reducible refine Kd.C_alloc ?_ _) | (with_reducible refine Kd.C_drewN ?_ _) | (with_reducible refine Kd.C_drew ?_))); (case side2 => exact (Kd.R_reads' HO_8.out).2.1); rintro e w24 ⟨v225, rfl, ho0, hb⟩; refine ⟨_, rfl, ?_⟩; have HO226 := As_.mk (Kd.R_lower (Kd.R_new' ho0 (Kd.R_lt (sqq HO_8.out))) (below_size sqh)); replace HO_8 := As_.mk (Kd.R_elder' (sqq HO_8.out) (Kd.R_base ho0) hb); replace BK222 := As_.mk (blk_below (bo BK222) hb); replace HB := As_.mk (below_step sqh hb); (try clear hb); (try clear ho0)))
        go_roundg k1
        case measure => have := HK1.out; omega
        case rel => exact ⟨(x8_1), (x9_1), (wrap64 (x18_1 + 1)), sqr, sqr, H', ⟨by have := HK1.out; omega⟩, ⟨by (with_reducible repeat (first | apply Kd.R_alloc | apply Kd.R_drewN | apply Kd.R_drew)); exact Kd.R_mono HO_8.out (fun _ hk => trivial)⟩, ⟨sqh⟩⟩
      ·replace c10 := Bool.eq_false_iff.mpr c10
       subst c10
       replace H := iF H
       have H' := As_.mk H
       clear H
       have p221 : 0 ≤ (x18_1 : Int) := of_decide_eq_true sqs
       have q221 : x18_1 < (l2.length : Int) := of_decide_eq_true sqs
       obtain ⟨ad221, e221, hx221_0, hx221_1, hx221_2, hx221_3, hx221_4, hx221_5, hx221_6⟩ := at_T76 HR2.out x18_1 p221 q221
       cases e221
       replace hx221_0 := cl HB hx221_0; replace hx221_1 := cl HB hx221_1; replace hx221_2 := cl HB hx221_2; replace hx221_3 := cl HB hx221_3; replace hx221_4 := cl HB hx221_4; replace hx221_5 := cl HB hx221_5; replace hx221_6 := cl HB hx221_6
       replace p221 := eq_true p221
       replace q221 := eq_true q221
       go_wp2_with (first | ((with_reducible refine gate_dst (N := 11) rfl ?_); refine bx (N := 11) (cs := #[.int .i64 0, .int .i64 0, .int .i64 0, .int .i64 0, .int .i64 0, .int .i64 0, .int .i64 0]) (t := 76) ?_; intro gb222 hg w25 hbox hb; replace HO_8 := As_.mk (Kd.R_below (sqq HO_8.out) hb); have BK222 := As_.mk (hbox); have GW222 := As_.mk ((by rw [hg]; exact (below_size sqh) : w.heap.size ≤ gb222)); have GE222 := As_.mk ((by rw [hg]; exact (below_size sqh) : w.heap.size ≤ gb222)); replace HB := As_.mk (below_step sqh hb); clear hb hbox hg; obtain ⟨hcz26_0, hcz26_1, hcz26_2, hcz26_3, hcz26_4, hcz26_5, hcz26_6, hfz26_0, hfz26_1, hfz26_2, hfz26_3, hfz26_4, hfz26_5, hfz26_6⟩ := sd7 BK222.out) | ((with_reducible refine gate_callee (f := 57) rfl ?_); refine goesL_ (some 24) rfl rfl Try.func57 sqk rfl #[.slice A0 l0.length c0, .agg #[.int .i64 ((rd_T76 l2 x18_1).f0.f0), .int .i64 ((rd_T76 l2 x18_1).f0.f1), .int .i64 ((rd_T76 l2 x18_1).f0.f2), .int .i64 ((rd_T76 l2 x18_1).f0.f3), .int .i64 ((rd_T76 l2 x18_1).f0.f4), .int .i64 ((rd_T76 l2 x18_1).f0.f5), .int .i64 ((rd_T76 l2 x18_1).f1)]] rfl sqm ?_; (with_reducible refine (impl_IsBelieved.calls k1 _ _ l0 ((rd_T76 l2 x18_1).f0.f0) ((rd_T76 l2 x18_1).f0.f1) ((rd_T76 l2 x18_1).f0.f2) ((rd_T76 l2 x18_1).f0.f3) ((rd_T76 l2 x18_1).f0.f4) ((rd_T76 l2 x18_1).f0.f5) ((rd_T76 l2 x18_1).f1) false _ ?side1 ?side2 A9.out).mono ?_); (case side1 => exact Kd.C_below HR0.out sqh); (case side2 => exact HC0.out); rintro e w27 ⟨rfl, hb⟩; refine ⟨_, rfl, ?_⟩; replace HO_8 := As_.mk (Kd.R_below z22_0 hb); replace BK222 := As_.mk (blk_below (g := gb222) (o := .cells #[.int .i64 ((rd_T76 l2 x18_1).f0.f0), .int .i64 ((rd_T76 l2 x18_1).f0.f1), .int .i64 ((rd_T76 l2 x18_1).f0.f2), .int .i64 ((rd_T76 l2 x18_1).f0.f3), .int .i64 ((rd_T76 l2 x18_1).f0.f4), .int .i64 ((rd_T76 l2 x18_1).f0.f5), .int .i64 ((rd_T76 l2 x18_1).f1)] 76 (0, 0)) (bp BK222) hb); replace HB := As_.mk (below_step sqh hb); (try clear hb)))
       go_roundg k1
       case measure => have := HK1.out; omega
       case rel => exact ⟨(x8_1), (x9_1), (wrap64 (x18_1 + 1)), sqr, sqr, H', ⟨by have := HK1.out; omega⟩, ⟨by (with_reducible repeat (first | apply Kd.R_alloc | apply Kd.R_drewN | apply Kd.R_drew)); exact HO_8.out⟩, ⟨sqh⟩⟩
     ·rw [if_neg c8] at H
      exact absurd H (by simp)
    ·rw [if_neg c7] at H
     exact absurd H (by simp)
   ·rw [if_neg c6] at H
    have c6b0 : decide (x18_1 < (l2.length : Int)) = false := decide_eq_false c6
    clear c6
    simp only [Option.some.injEq, Prod.mk.injEq] at H
    obtain ⟨rfl, rfl⟩ := H
    go_wp2
    go_ret2
    exact ⟨_, sqe, by (with_reducible repeat (first | apply Kd.R_alloc | apply Kd.R_drewN | apply Kd.R_drew)); exact HO_8.out, sqh⟩

/-! ### spec_FindIssuer: function 42 -/
def spec_FindIssuer.l0 : Nat → List (S48) → Int → Int → Option (Int)
 | 0, _, _, _ => none
 | k + 1, x0, x1, x5 => if x5 < (x0.length : Int) then (if 0 ≤ x5 then (if ((rd_T48 x0 x5).f0) = x1 then (some x5) else (spec_FindIssuer.l0 k x0 x1 (wrap64 (x5 + 1)))) else (none)) else (some (-1))
def spec_FindIssuer.f (k : Nat) (l0 : List (S48)) (a1 : Int) : Option (Int) := spec_FindIssuer.l0 k l0 a1 0
set_option maxHeartbeats 8000000 in
set_option maxRecDepth 100000 in
theorem spec_FindIssuer.calls (k : Nat) (A0 : Option Addr) (c0 : Nat) (l0 : List (S48)) (a1 : Int) (r : Int) (w : World) (hr0 : Kd.C k48 w A0 l0.length l0) (hc0 : l0.length ≤ c0) (h : spec_FindIssuer.f k l0 a1 = some r) :
  Calls Try.prog 42 #[.slice A0 l0.length c0, .int .i64 a1] w fun e w' => e = .returned (.int .i64 r) ∧ Drawn0 w w' := by
 have HR0 := As_.mk hr0
 have HC0 := As_.mk hc0
 clear hr0 hc0
 have H : (spec_FindIssuer.l0 k l0 a1 0) = some r := h
 clear h
 have H' := As_.mk H
 clear H
 go_enter Try.func42, Try.ntmps42
 go_wp2
 go_loopg [5] k (fun kq v5 w' => ∃ (x5_1 : Int), v5 = .int .i64 x5_1 ∧ As_ (spec_FindIssuer.l0 kq l0 a1 x5_1 = some r) ∧ As_ (kq ≤ k) ∧ Drawn0 w w')
 case atStart => exact ⟨(0), sqr, H', ⟨Nat.le_refl _⟩, by repeat (first | exact Drawn0.refl _ | apply Drawn0.step)⟩
 case round =>
  clear H'; try clear p2
  obtain ⟨x5_1, rfl, HA, HK1, ⟨m1, rfl⟩⟩ := hrel
  cases gk with
  | zero => exact absurd HA.out (by simp [spec_FindIssuer.l0])
  | succ k1 =>
   have H := HA.out
   clear HA
   simp only [spec_FindIssuer.l0] at H
   by_cases c3 : x5_1 < (l0.length : Int)
   ·rw [if_pos c3] at H
    have c3b0 : decide (x5_1 < (l0.length : Int)) = true := decide_eq_true c3
    clear c3
    by_cases c4 : 0 ≤ x5_1
    ·rw [if_pos c4] at H
     have c4b0 : decide (0 ≤ x5_1) = true := decide_eq_true c4
     clear c4
     by_cases c5 : ((rd_T48 l0 x5_1).f0) = a1
     ·rw [if_pos c5] at H
      have c5b0 : (((rd_T48 l0 x5_1).f0) == a1) = true := beq_iff_eq.mpr c5
      have c5b1 : (((rd_T48 l0 x5_1).f0) != a1) = false := bne_eq_false_iff_eq.mpr c5
      clear c5
      obtain rfl := Option.some.inj H
      have p228 : 0 ≤ (x5_1 : Int) := of_decide_eq_true sqs
      have q228 : x5_1 < (l0.length : Int) := of_decide_eq_true sqs
      obtain ⟨ad228, A228_1, c228_1, e228, hx228_0, hx228_1, hx228_2, hl228_1, hi228_1⟩ := at_T48 HR0.out x5_1 p228 q228
      cases e228
      have HR228_1 := As_.mk hi228_1
      have HC228_1 := As_.mk hl228_1
      clear hi228_1 hl228_1
      replace p228 := eq_true p228
      replace q228 := eq_true q228
      go_wp2
      go_ret
      exact ⟨sqr, by repeat (first | exact Drawn0.refl _ | apply Drawn0.step)⟩
     ·rw [if_neg c5] at H
      have c5b0 : (((rd_T48 l0 x5_1).f0) == a1) = false := beq_eq_false_iff_ne.mpr c5
      have c5b1 : (((rd_T48 l0 x5_1).f0) != a1) = true := bne_iff_ne.mpr c5
      have H' := As_.mk H
      clear H
      have p228 : 0 ≤ (x5_1 : Int) := of_decide_eq_true sqs
      have q228 : x5_1 < (l0.length : Int) := of_decide_eq_true sqs
      obtain ⟨ad228, A228_1, c228_1, e228, hx228_0, hx228_1, hx228_2, hl228_1, hi228_1⟩ := at_T48 HR0.out x5_1 p228 q228
      cases e228
      have HR228_1 := As_.mk hi228_1
      have HC228_1 := As_.mk hl228_1
      clear hi228_1 hl228_1
      replace p228 := eq_true p228
      replace q228 := eq_true q228
      go_wp2
      go_roundg k1
      case measure => have := HK1.out; omega
      case rel => exact ⟨(wrap64 (x5_1 + 1)), sqr, H', ⟨by have := HK1.out; omega⟩, by repeat (first | exact Drawn0.refl _ | apply Drawn0.step)⟩
    ·rw [if_neg c4] at H
     exact absurd H (by simp)
   ·rw [if_neg c3] at H
    have c3b0 : decide (x5_1 < (l0.length : Int)) = false := decide_eq_false c3
    clear c3
    obtain rfl := Option.some.inj H
    go_wp2
    go_ret
    exact ⟨sqr, by repeat (first | exact Drawn0.refl _ | apply Drawn0.step)⟩

/-! ### spec_l1In: function 72 -/
def spec_l1In.f (a0 : Int) (a1 : Int) (a2 : Int) : Option (Bool) := if a0 ≥ a1 then (some (decide (a0 ≤ a2))) else (some false)
set_option maxHeartbeats 8000000 in
set_option maxRecDepth 100000 in
theorem spec_l1In.calls (a0 : Int) (a1 : Int) (a2 : Int) (r : Bool) (w : World) (h : spec_l1In.f a0 a1 a2 = some r) :
  Calls Try.prog 72 #[.int .i64 a0, .int .i64 a1, .int .i64 a2] w fun e w' => e = .returned (.bool r) ∧ Drawn0 w w' := by
 have H : (if a0 ≥ a1 then (some (decide (a0 ≤ a2))) else (some false)) = some r := h
 clear h
 by_cases c4 : a0 ≥ a1
 ·rw [if_pos c4] at H
  have c4b0 : decide (a1 ≤ a0) = true := decide_eq_true c4
  clear c4
  obtain rfl := Option.some.inj H
  go_enter Try.func72, Try.ntmps72
  go_wp2
  go_ret
  exact ⟨sqr, by repeat (first | exact Drawn0.refl _ | apply Drawn0.step)⟩
 ·rw [if_neg c4] at H
  have c4b0 : decide (a1 ≤ a0) = false := decide_eq_false c4
  clear c4
  obtain rfl := Option.some.inj H
  go_enter Try.func72, Try.ntmps72
  go_wp2
  go_ret
  exact ⟨sqr, by repeat (first | exact Drawn0.refl _ | apply Drawn0.step)⟩

/-! ### spec_IsValidKey: function 73 -/
def spec_IsValidKey.f (a0 : Int) : Option (Bool) := (spec_l1In.f a0 1 2147483646).bind fun t229 => (some t229)
set_option maxHeartbeats 8000000 in
set_option maxRecDepth 100000 in
theorem spec_IsValidKey.calls (a0 : Int) (r : Bool) (w : World) (h : spec_IsValidKey.f a0 = some r) :
  Calls Try.prog 73 #[.int .i64 a0] w fun e w' => e = .returned (.bool r) ∧ Drawn0 w w' := by
 have H : ((spec_l1In.f a0 1 2147483646).bind fun t229 => (some t229)) = some r := h
 clear h
 obtain ⟨t229, A2, H⟩ := bA H
 obtain rfl := Option.some.inj H
 go_enter Try.func73, Try.ntmps73
 go_wp2_with (first | ((with_reducible refine gate_callee (f := 72) rfl ?_); refine goesL_ (some 4) rfl rfl Try.func72 sqk rfl #[.int .i64 a0, .int .i64 1, .int .i64 2147483646] rfl sqm ?_; (with_reducible refine (spec_l1In.calls a0 1 2147483646 t229 _ A2.out).mono ?_); rintro e w' ⟨rfl, ⟨nd, rfl⟩⟩; refine ⟨_, rfl, ?_⟩))
 go_ret
 exact ⟨sqr, by repeat (first | exact Drawn0.refl _ | apply Drawn0.step)⟩

/-! ### spec_IsIssuer: function 31 -/
def spec_IsIssuer.l0 : Nat → Int → Int → List Int → Int → Option (Bool)
 | 0, _, _, _, _ => none
 | k + 1, x3, x231000, x231001, x231002 => if x3 < (x231001.length : Int) then (if 0 ≤ x3 then ((spec_l1In.f (rd x231001 x3) 1 4).bind fun t232 => (if t232 = true then (if x3 > 0 then (if 0 ≤ (wrap64 (x3 - 1)) then (if (wrap64 (x3 - 1)) < (x231001.length : Int) then (if (rd x231001 (wrap64 (x3 - 1))) ≥ (rd x231001 x3) then (some false) else (spec_IsIssuer.l0 k (wrap64 (x3 + 1)) x231000 x231001 x231002)) else (none)) else (none)) else (spec_IsIssuer.l0 k (wrap64 (x3 + 1)) x231000 x231001 x231002)) else (some false))) else (none)) else ((spec_l1In.f x231000 0 9).bind fun t235 => (if t235 = true then ((spec_IsValidKey.f x231002).bind fun t236 => (some t236)) else (some false)))
def spec_IsIssuer.f (k : Nat) (a0_0 : Int) (l0_1 : List Int) (a0_2 : Int) : Option (Bool) := spec_IsIssuer.l0 k 0 a0_0 l0_1 a0_2
set_option maxHeartbeats 8000000 in
set_option maxRecDepth 100000 in
theorem spec_IsIssuer.calls (k : Nat) (a0_0 : Int) (A0_1 : Option Addr) (c0_1 : Nat) (l0_1 : List Int) (a0_2 : Int) (r : Bool) (w : World) (hr0_1 : Kd.C (Kd.int .i64) w A0_1 l0_1.length l0_1) (hc0_1 : l0_1.length ≤ c0_1) (h : spec_IsIssuer.f k a0_0 l0_1 a0_2 = some r) :
  Calls Try.prog 31 #[.agg #[.int .i64 a0_0, .slice A0_1 l0_1.length c0_1, .int .i64 a0_2]] w fun e w' => e = .returned (.bool r) ∧ Below w.heap.size w w' := by
 have hu48 := Try.underlying48
 have HR0_1 := As_.mk hr0_1
 have HC0_1 := As_.mk hc0_1
 clear hr0_1 hc0_1
 have HB := As_.mk (Below.refl w.heap.size w)
 have H : (spec_IsIssuer.l0 k 0 a0_0 l0_1 a0_2) = some r := h
 clear h
 have H' := As_.mk H
 clear H
 go_enter Try.func31, Try.ntmps31
 go_wp2_with (first | ((with_reducible refine gate_dst (N := 1) rfl ?_); refine bx (N := 1) (cs := #[.int .i64 a0_0, .slice A0_1 l0_1.length c0_1, .int .i64 a0_2]) (t := 48) ?_; intro gb230 hg w2 hbox hb; have BK230 := As_.mk (hbox); have GW230 := As_.mk ((by rw [hg]; exact (below_size sqh) : w.heap.size ≤ gb230)); have GE230 := As_.mk ((by rw [hg]; exact (below_size sqh) : w.heap.size ≤ gb230)); replace HB := As_.mk (below_step sqh hb); clear hb hbox hg))
 repeat (go_quiet (first | ((with_reducible refine gate_dst (N := 1) rfl ?_); refine box_event ?hg (N := 1) ?hd (cs := #[.int .i64 a0_0, .slice A0_1 l0_1.length c0_1, .int .i64 a0_2]) (t := 48) ?hr ?_; (case hd => rfl); (case hg => rfl); (case hr => first | (go_simp; done) | (go_simp; rfl)); intro gb230 hg w2 hbox hb; have n0_ := As_.mk (below_step sqh hb); have n1_ := As_.mk (hbox); have n2_ := As_.mk ((by rw [hg]; exact (below_size sqh) : w.heap.size ≤ gb230)); have n3_ := As_.mk ((by rw [hg]; exact (below_size sqh) : w.heap.size ≤ gb230)); clear HB; have HB := n0_; have BK230 := n1_; have GW230 := n2_; have GE230 := n3_; clear n0_ n1_ n2_ n3_; clear hb hbox hg)); try go_wp2_with (first | ((with_reducible refine gate_dst (N := 1) rfl ?_); refine box_event ?hg (N := 1) ?hd (cs := #[.int .i64 a0_0, .slice A0_1 l0_1.length c0_1, .int .i64 a0_2]) (t := 48) ?hr ?_; (case hd => rfl); (case hg => rfl); (case hr => first | (go_simp; done) | (go_simp; rfl)); intro gb230 hg w2 hbox hb; have n0_ := As_.mk (below_step sqh hb); have n1_ := As_.mk (hbox); have n2_ := As_.mk ((by rw [hg]; exact (below_size sqh) : w.heap.size ≤ gb230)); have n3_ := As_.mk ((by rw [hg]; exact (below_size sqh) : w.heap.size ≤ gb230)); clear HB; have HB := n0_; have BK230 := n1_; have GW230 := n2_; have GE230 := n3_; clear n0_ n1_ n2_ n3_; clear hb hbox hg)))
 go_loopg [3] k (fun kq v3 w' => ∃ (x3_1 : Int), v3 = .int .i64 x3_1 ∧ As_ (spec_IsIssuer.l0 kq x3_1 a0_0 l0_1 a0_2 = some r) ∧ As_ (kq ≤ k) ∧ As_ (w'.heap[gb230]? = some (.cells #[.int .i64 a0_0, (.slice A0_1 l0_1.length c0_1), .int .i64 a0_2] 48 (0, 0))) ∧ As_ (Below w.heap.size w w'))
 case atStart => exact ⟨(0), sqr, H', ⟨Nat.le_refl _⟩, ⟨sqb BK230.out⟩, ⟨sqh⟩⟩
 case round =>
  clear H'; try clear p2
  obtain ⟨x3_1, rfl, HA, HK1, BK230, HB⟩ := hrel
  cases gk with
  | zero => exact absurd HA.out (by simp [spec_IsIssuer.l0])
  | succ k1 =>
   have H := HA.out
   clear HA
   simp only [spec_IsIssuer.l0] at H
   by_cases c3 : x3_1 < (l0_1.length : Int)
   ·rw [if_pos c3] at H
    have c3b0 : decide (x3_1 < (l0_1.length : Int)) = true := decide_eq_true c3
    clear c3
    by_cases c4 : 0 ≤ x3_1
    ·rw [if_pos c4] at H
     have c4b0 : decide (0 ≤ x3_1) = true := decide_eq_true c4
     clear c4
     obtain ⟨t232, A5, H⟩ := bA H
     by_cases c6 : t232 = true
     ·subst c6
      replace H := iT H
      by_cases c7 : x3_1 > 0
      ·rw [if_pos c7] at H
       have c7b0 : decide (0 < x3_1) = true := decide_eq_true c7
       clear c7
       obtain ⟨ji8, hji8⟩ : ∃ j_ : Int, (wrap64 (x3_1 - 1)) = j_ := ⟨_, rfl⟩
       replace H : (if 0 ≤ (ji8) then (if (ji8) < (l0_1.length : Int) then (if (rd l0_1 (ji8)) ≥ (rd l0_1 x3_1) then (some false) else (spec_IsIssuer.l0 k1 (wrap64 (x3_1 + 1)) a0_0 l0_1 a0_2)) else (none)) else (none)) = some r := by first | (rw [hji8] at H; exact H) | (simp only [hji8] at H ⊢; exact H)
       (try rw [hji8] at A5)
       have hji8w : (IntKind.i64.wrap (x3_1 - 1)) = ji8 := (i64_w _).trans hji8
       by_cases c9 : 0 ≤ (ji8)
       ·rw [if_pos c9] at H
        have c9b0 : decide (0 ≤ (ji8)) = true := decide_eq_true c9
        clear c9
        by_cases c10 : (ji8) < (l0_1.length : Int)
        ·rw [if_pos c10] at H
         have c10b0 : decide ((ji8) < (l0_1.length : Int)) = true := decide_eq_true c10
         clear c10
         by_cases c11 : (rd l0_1 (ji8)) ≥ (rd l0_1 x3_1)
         ·rw [if_pos c11] at H
          have c11b0 : decide ((rd l0_1 x3_1) ≤ (rd l0_1 (ji8))) = true := decide_eq_true c11
          clear c11
          obtain rfl := Option.some.inj H
          obtain ⟨hcz12_0, hcz12_1, hcz12_2, hfz12_0, hfz12_1, hfz12_2⟩ := sd3 BK230.out
          have p231 : 0 ≤ (x3_1 : Int) := of_decide_eq_true sqs
          have q231 : x3_1 < (l0_1.length : Int) := of_decide_eq_true sqs
          obtain ⟨ad231, e231, hx231_0⟩ := Kd.at_int HR0_1.out x3_1 p231 q231
          cases e231
          replace hx231_0 := cl HB hx231_0
          replace p231 := eq_true p231
          replace q231 := eq_true q231
          go_wp2_with (first | (go_at_call 72; (with_reducible refine (spec_l1In.calls (rd l0_1 x3_1) 1 4 true _ A5.out).mono ?_); rintro e w' ⟨rfl, ⟨nd, rfl⟩⟩; (try first | exact ⟨rfl, _, World.drewN_drewN _ _ _⟩ | exact ⟨rfl, _, Eq.trans (World.drewN_drewN _ _ _) (congrArg (World.drewN _) (Nat.add_assoc _ _ _))⟩); have p233 : 0 ≤ ((ji8) : Int) := of_decide_eq_true sqs; have q233 : (ji8) < (l0_1.length : Int) := of_decide_eq_true sqs; obtain ⟨ad233, e233, hx233_0⟩ := Kd.at_int HR0_1.out (ji8) p233 q233; obtain rfl : ad231 = ad233 := (by injection e233); replace hx233_0 := cl HB hx233_0; replace p233 := eq_true p233; replace q233 := eq_true q233; have p234 : 0 ≤ (x3_1 : Int) := of_decide_eq_true sqs; have q234 : x3_1 < (l0_1.length : Int) := of_decide_eq_true sqs; obtain ⟨ad234, e234, hx234_0⟩ := Kd.at_int HR0_1.out x3_1 p234 q234; obtain rfl : ad231 = ad234 := (by injection e234); replace hx234_0 := cl HB hx234_0; replace p234 := eq_true p234; replace q234 := eq_true q234))
          repeat (go_quiet (first | (go_at_call 72; (with_reducible refine (spec_l1In.calls (rd l0_1 x3_1) 1 4 true _ A5.out).mono ?_); rintro e w' ⟨rfl, ⟨nd, rfl⟩⟩; (try first | exact ⟨rfl, _, World.drewN_drewN _ _ _⟩ | exact ⟨rfl, _, Eq.trans (World.drewN_drewN _ _ _) (congrArg (World.drewN _) (Nat.add_assoc _ _ _))⟩); have p233 : 0 ≤ ((ji8) : Int) := of_decide_eq_true sqs; have q233 : (ji8) < (l0_1.length : Int) := of_decide_eq_true sqs; obtain ⟨ad233, e233, hx233_0⟩ := Kd.at_int HR0_1.out (ji8) p233 q233; obtain rfl : ad231 = ad233 := (by injection e233); replace hx233_0 := cl HB hx233_0; replace p233 := eq_true p233; replace q233 := eq_true q233; have p234 : 0 ≤ (x3_1 : Int) := of_decide_eq_true sqs; have q234 : x3_1 < (l0_1.length : Int) := of_decide_eq_true sqs; obtain ⟨ad234, e234, hx234_0⟩ := Kd.at_int HR0_1.out x3_1 p234 q234; obtain rfl : ad231 = ad234 := (by injection e234); replace hx234_0 := cl HB hx234_0; replace p234 := eq_true p234; replace q234 := eq_true q234)); try go_wp2_with (first | (go_at_call 72; (with_reducible refine (spec_l1In.calls (rd l0_1 x3_1) 1 4 true _ A5.out).mono ?_); rintro e w' ⟨rfl, ⟨nd, rfl⟩⟩; (try first | exact ⟨rfl, _, World.drewN_drewN _ _ _⟩ | exact ⟨rfl, _, Eq.trans (World.drewN_drewN _ _ _) (congrArg (World.drewN _) (Nat.add_assoc _ _ _))⟩); have p233 : 0 ≤ ((ji8) : Int) := of_decide_eq_true sqs; have q233 : (ji8) < (l0_1.length : Int) := of_decide_eq_true sqs; obtain ⟨ad233, e233, hx233_0⟩ := Kd.at_int HR0_1.out (ji8) p233 q233; obtain rfl : ad231 = ad233 := (by injection e233); replace hx233_0 := cl HB hx233_0; replace p233 := eq_true p233; replace q233 := eq_true q233; have p234 : 0 ≤ (x3_1 : Int) := of_decide_eq_true sqs; have q234 : x3_1 < (l0_1.length : Int) := of_decide_eq_true sqs; obtain ⟨ad234, e234, hx234_0⟩ := Kd.at_int HR0_1.out x3_1 p234 q234; obtain rfl : ad231 = ad234 := (by injection e234); replace hx234_0 := cl HB hx234_0; replace p234 := eq_true p234; replace q234 := eq_true q234)))
          go_ret
          exact ⟨by first | rfl | (simp [errW_none, errW_some] <;> rfl) | (simp only [← hji8]; first | rfl | (simp [errW_none, errW_some] <;> rfl)) | (simp [*, errW_none, errW_some] <;> rfl), sqh⟩
         ·rw [if_neg c11] at H
          have c11b0 : decide ((rd l0_1 x3_1) ≤ (rd l0_1 (ji8))) = false := decide_eq_false c11
          clear c11
          have H' := As_.mk H
          clear H
          obtain ⟨hcz13_0, hcz13_1, hcz13_2, hfz13_0, hfz13_1, hfz13_2⟩ := sd3 BK230.out
          have p231 : 0 ≤ (x3_1 : Int) := of_decide_eq_true sqs
          have q231 : x3_1 < (l0_1.length : Int) := of_decide_eq_true sqs
          obtain ⟨ad231, e231, hx231_0⟩ := Kd.at_int HR0_1.out x3_1 p231 q231
          cases e231
          replace hx231_0 := cl HB hx231_0
          replace p231 := eq_true p231
          replace q231 := eq_true q231
          go_wp2_with (first | (go_at_call 72; (with_reducible refine (spec_l1In.calls (rd l0_1 x3_1) 1 4 true _ A5.out).mono ?_); rintro e w' ⟨rfl, ⟨nd, rfl⟩⟩; (try first | exact ⟨rfl, _, World.drewN_drewN _ _ _⟩ | exact ⟨rfl, _, Eq.trans (World.drewN_drewN _ _ _) (congrArg (World.drewN _) (Nat.add_assoc _ _ _))⟩); have p233 : 0 ≤ ((ji8) : Int) := of_decide_eq_true sqs; have q233 : (ji8) < (l0_1.length : Int) := of_decide_eq_true sqs; obtain ⟨ad233, e233, hx233_0⟩ := Kd.at_int HR0_1.out (ji8) p233 q233; obtain rfl : ad231 = ad233 := (by injection e233); replace hx233_0 := cl HB hx233_0; replace p233 := eq_true p233; replace q233 := eq_true q233; have p234 : 0 ≤ (x3_1 : Int) := of_decide_eq_true sqs; have q234 : x3_1 < (l0_1.length : Int) := of_decide_eq_true sqs; obtain ⟨ad234, e234, hx234_0⟩ := Kd.at_int HR0_1.out x3_1 p234 q234; obtain rfl : ad231 = ad234 := (by injection e234); replace hx234_0 := cl HB hx234_0; replace p234 := eq_true p234; replace q234 := eq_true q234))
          repeat (go_quiet (first | (go_at_call 72; (with_reducible refine (spec_l1In.calls (rd l0_1 x3_1) 1 4 true _ A5.out).mono ?_); rintro e w' ⟨rfl, ⟨nd, rfl⟩⟩; (try first | exact ⟨rfl, _, World.drewN_drewN _ _ _⟩ | exact ⟨rfl, _, Eq.trans (World.drewN_drewN _ _ _) (congrArg (World.drewN _) (Nat.add_assoc _ _ _))⟩); have p233 : 0 ≤ ((ji8) : Int) := of_decide_eq_true sqs; have q233 : (ji8) < (l0_1.length : Int) := of_decide_eq_true sqs; obtain ⟨ad233, e233, hx233_0⟩ := Kd.at_int HR0_1.out (ji8) p233 q233; obtain rfl : ad231 = ad233 := (by injection e233); replace hx233_0 := cl HB hx233_0; replace p233 := eq_true p233; replace q233 := eq_true q233; have p234 : 0 ≤ (x3_1 : Int) := of_decide_eq_true sqs; have q234 : x3_1 < (l0_1.length : Int) := of_decide_eq_true sqs; obtain ⟨ad234, e234, hx234_0⟩ := Kd.at_int HR0_1.out x3_1 p234 q234; obtain rfl : ad231 = ad234 := (by injection e234); replace hx234_0 := cl HB hx234_0; replace p234 := eq_true p234; replace q234 := eq_true q234)); try go_wp2_with (first | (go_at_call 72; (with_reducible refine (spec_l1In.calls (rd l0_1 x3_1) 1 4 true _ A5.out).mono ?_); rintro e w' ⟨rfl, ⟨nd, rfl⟩⟩; (try first | exact ⟨rfl, _, World.drewN_drewN _ _ _⟩ | exact ⟨rfl, _, Eq.trans (World.drewN_drewN _ _ _) (congrArg (World.drewN _) (Nat.add_assoc _ _ _))⟩); have p233 : 0 ≤ ((ji8) : Int) := of_decide_eq_true sqs; have q233 : (ji8) < (l0_1.length : Int) := of_decide_eq_true sqs; obtain ⟨ad233, e233, hx233_0⟩ := Kd.at_int HR0_1.out (ji8) p233 q233; obtain rfl : ad231 = ad233 := (by injection e233); replace hx233_0 := cl HB hx233_0; replace p233 := eq_true p233; replace q233 := eq_true q233; have p234 : 0 ≤ (x3_1 : Int) := of_decide_eq_true sqs; have q234 : x3_1 < (l0_1.length : Int) := of_decide_eq_true sqs; obtain ⟨ad234, e234, hx234_0⟩ := Kd.at_int HR0_1.out x3_1 p234 q234; obtain rfl : ad231 = ad234 := (by injection e234); replace hx234_0 := cl HB hx234_0; replace p234 := eq_true p234; replace q234 := eq_true q234)))
          go_roundg k1
          case measure => have := HK1.out; omega
          case rel => exact ⟨(wrap64 (x3_1 + 1)), sqr, H', ⟨by have := HK1.out; omega⟩, ⟨sqb BK230.out⟩, ⟨sqh⟩⟩
        ·rw [if_neg c10] at H
         exact absurd H (by simp)
       ·rw [if_neg c9] at H
        exact absurd H (by simp)
      ·rw [if_neg c7] at H
       have c7b0 : decide (0 < x3_1) = false := decide_eq_false c7
       clear c7
       have H' := As_.mk H
       clear H
       obtain ⟨hcz14_0, hcz14_1, hcz14_2, hfz14_0, hfz14_1, hfz14_2⟩ := sd3 BK230.out
       have p231 : 0 ≤ (x3_1 : Int) := of_decide_eq_true sqs
       have q231 : x3_1 < (l0_1.length : Int) := of_decide_eq_true sqs
       obtain ⟨ad231, e231, hx231_0⟩ := Kd.at_int HR0_1.out x3_1 p231 q231
       cases e231
       replace hx231_0 := cl HB hx231_0
       replace p231 := eq_true p231
       replace q231 := eq_true q231
       go_wp2_with (first | (go_at_call 72; (with_reducible refine (spec_l1In.calls (rd l0_1 x3_1) 1 4 true _ A5.out).mono ?_); rintro e w' ⟨rfl, ⟨nd, rfl⟩⟩; (try first | exact ⟨rfl, _, World.drewN_drewN _ _ _⟩ | exact ⟨rfl, _, Eq.trans (World.drewN_drewN _ _ _) (congrArg (World.drewN _) (Nat.add_assoc _ _ _))⟩)))
       repeat (go_quiet (first | (go_at_call 72; (with_reducible refine (spec_l1In.calls (rd l0_1 x3_1) 1 4 true _ A5.out).mono ?_); rintro e w' ⟨rfl, ⟨nd, rfl⟩⟩; (try first | exact ⟨rfl, _, World.drewN_drewN _ _ _⟩ | exact ⟨rfl, _, Eq.trans (World.drewN_drewN _ _ _) (congrArg (World.drewN _) (Nat.add_assoc _ _ _))⟩))); try go_wp2_with (first | (go_at_call 72; (with_reducible refine (spec_l1In.calls (rd l0_1 x3_1) 1 4 true _ A5.out).mono ?_); rintro e w' ⟨rfl, ⟨nd, rfl⟩⟩; (try first | exact ⟨rfl, _, World.drewN_drewN _ _ _⟩ | exact ⟨rfl, _, Eq.trans (World.drewN_drewN _ _ _) (congrArg (World.drewN _) (Nat.add_assoc _ _ _))⟩))))
       go_roundg k1
       case measure => have := HK1.out; omega
       case rel => exact ⟨(wrap64 (x3_1 + 1)), sqr, H', ⟨by have := HK1.out; omega⟩, ⟨sqb BK230.out⟩, ⟨sqh⟩⟩
     ·replace c6 := Bool.eq_false_iff.mpr c6
      subst c6
      replace H := iF H
      obtain rfl := Option.some.inj H
      obtain ⟨hcz15_0, hcz15_1, hcz15_2, hfz15_0, hfz15_1, hfz15_2⟩ := sd3 BK230.out
      have p231 : 0 ≤ (x3_1 : Int) := of_decide_eq_true sqs
      have q231 : x3_1 < (l0_1.length : Int) := of_decide_eq_true sqs
      obtain ⟨ad231, e231, hx231_0⟩ := Kd.at_int HR0_1.out x3_1 p231 q231
      cases e231
      replace hx231_0 := cl HB hx231_0
      replace p231 := eq_true p231
      replace q231 := eq_true q231
      go_wp2_with (first | (go_at_call 72; (with_reducible refine (spec_l1In.calls (rd l0_1 x3_1) 1 4 false _ A5.out).mono ?_); rintro e w' ⟨rfl, ⟨nd, rfl⟩⟩; (try first | exact ⟨rfl, _, World.drewN_drewN _ _ _⟩ | exact ⟨rfl, _, Eq.trans (World.drewN_drewN _ _ _) (congrArg (World.drewN _) (Nat.add_assoc _ _ _))⟩)))
      repeat (go_quiet (first | (go_at_call 72; (with_reducible refine (spec_l1In.calls (rd l0_1 x3_1) 1 4 false _ A5.out).mono ?_); rintro e w' ⟨rfl, ⟨nd, rfl⟩⟩; (try first | exact ⟨rfl, _, World.drewN_drewN _ _ _⟩ | exact ⟨rfl, _, Eq.trans (World.drewN_drewN _ _ _) (congrArg (World.drewN _) (Nat.add_assoc _ _ _))⟩))); try go_wp2_with (first | (go_at_call 72; (with_reducible refine (spec_l1In.calls (rd l0_1 x3_1) 1 4 false _ A5.out).mono ?_); rintro e w' ⟨rfl, ⟨nd, rfl⟩⟩; (try first | exact ⟨rfl, _, World.drewN_drewN _ _ _⟩ | exact ⟨rfl, _, Eq.trans (World.drewN_drewN _ _ _) (congrArg (World.drewN _) (Nat.add_assoc _ _ _))⟩))))
      go_ret
      exact ⟨sqe, sqh⟩
    ·rw [if_neg c4] at H
     exact absurd H (by simp)
   ·rw [if_neg c3] at H
    have c3b0 : decide (x3_1 < (l0_1.length : Int)) = false := decide_eq_false c3
    clear c3
    obtain ⟨t235, A16, H⟩ := bA H
    by_cases c17 : t235 = true
    ·subst c17
     replace H := iT H
     obtain ⟨t236, A18, H⟩ := bA H
     obtain rfl := Option.some.inj H
     obtain ⟨hcz19_0, hcz19_1, hcz19_2, hfz19_0, hfz19_1, hfz19_2⟩ := sd3 BK230.out
     go_wp2_with (first | (go_at_call 72; (with_reducible refine (spec_l1In.calls a0_0 0 9 true _ A16.out).mono ?_); rintro e w' ⟨rfl, ⟨nd, rfl⟩⟩; (try first | exact ⟨rfl, _, World.drewN_drewN _ _ _⟩ | exact ⟨rfl, _, Eq.trans (World.drewN_drewN _ _ _) (congrArg (World.drewN _) (Nat.add_assoc _ _ _))⟩)) | (go_at_call 73; (with_reducible refine (spec_IsValidKey.calls a0_2 t236 _ A18.out).mono ?_); rintro e w' ⟨rfl, ⟨nd, rfl⟩⟩; (try first | exact ⟨rfl, _, World.drewN_drewN _ _ _⟩ | exact ⟨rfl, _, Eq.trans (World.drewN_drewN _ _ _) (congrArg (World.drewN _) (Nat.add_assoc _ _ _))⟩)))
     repeat (go_quiet (first | (go_at_call 72; (with_reducible refine (spec_l1In.calls a0_0 0 9 true _ A16.out).mono ?_); rintro e w' ⟨rfl, ⟨nd, rfl⟩⟩; (try first | exact ⟨rfl, _, World.drewN_drewN _ _ _⟩ | exact ⟨rfl, _, Eq.trans (World.drewN_drewN _ _ _) (congrArg (World.drewN _) (Nat.add_assoc _ _ _))⟩)) | (go_at_call 73; (with_reducible refine (spec_IsValidKey.calls a0_2 t236 _ A18.out).mono ?_); rintro e w' ⟨rfl, ⟨nd, rfl⟩⟩; (try first | exact ⟨rfl, _, World.drewN_drewN _ _ _⟩ | exact ⟨rfl, _, Eq.trans (World.drewN_drewN _ _ _) (congrArg (World.drewN _) (Nat.add_assoc _ _ _))⟩))); try go_wp2_with (first | (go_at_call 72; (with_reducible refine (spec_l1In.calls a0_0 0 9 true _ A16.out).mono ?_); rintro e w' ⟨rfl, ⟨nd, rfl⟩⟩; (try first | exact ⟨rfl, _, World.drewN_drewN _ _ _⟩ | exact ⟨rfl, _, Eq.trans (World.drewN_drewN _ _ _) (congrArg (World.drewN _) (Nat.add_assoc _ _ _))⟩)) | (go_at_call 73; (with_reducible refine (spec_IsValidKey.calls a0_2 t236 _ A18.out).mono ?_); rintro e w' ⟨rfl, ⟨nd, rfl⟩⟩; (try first | exact ⟨rfl, _, World.drewN_drewN _ _ _⟩ | exact ⟨rfl, _, Eq.trans (World.drewN_drewN _ _ _) (congrArg (World.drewN _) (Nat.add_assoc _ _ _))⟩))))
     go_ret
     exact ⟨sqe, sqh⟩
    ·replace c17 := Bool.eq_false_iff.mpr c17
     subst c17
     replace H := iF H
     obtain rfl := Option.some.inj H
     obtain ⟨hcz20_0, hcz20_1, hcz20_2, hfz20_0, hfz20_1, hfz20_2⟩ := sd3 BK230.out
     go_wp2_with (first | (go_at_call 72; (with_reducible refine (spec_l1In.calls a0_0 0 9 false _ A16.out).mono ?_); rintro e w' ⟨rfl, ⟨nd, rfl⟩⟩; (try first | exact ⟨rfl, _, World.drewN_drewN _ _ _⟩ | exact ⟨rfl, _, Eq.trans (World.drewN_drewN _ _ _) (congrArg (World.drewN _) (Nat.add_assoc _ _ _))⟩)))
     repeat (go_quiet (first | (go_at_call 72; (with_reducible refine (spec_l1In.calls a0_0 0 9 false _ A16.out).mono ?_); rintro e w' ⟨rfl, ⟨nd, rfl⟩⟩; (try first | exact ⟨rfl, _, World.drewN_drewN _ _ _⟩ | exact ⟨rfl, _, Eq.trans (World.drewN_drewN _ _ _) (congrArg (World.drewN _) (Nat.add_assoc _ _ _))⟩))); try go_wp2_with (first | (go_at_call 72; (with_reducible refine (spec_l1In.calls a0_0 0 9 false _ A16.out).mono ?_); rintro e w' ⟨rfl, ⟨nd, rfl⟩⟩; (try first | exact ⟨rfl, _, World.drewN_drewN _ _ _⟩ | exact ⟨rfl, _, Eq.trans (World.drewN_drewN _ _ _) (congrArg (World.drewN _) (Nat.add_assoc _ _ _))⟩))))
     go_ret
     exact ⟨sqe, sqh⟩

/-! ### spec_IsTime: function 80 -/
def spec_IsTime.f (a0 : Int) : Option (Bool) := (spec_l1In.f a0 0 10000).bind fun t237 => (some t237)
set_option maxHeartbeats 8000000 in
set_option maxRecDepth 100000 in
theorem spec_IsTime.calls (a0 : Int) (r : Bool) (w : World) (h : spec_IsTime.f a0 = some r) :
  Calls Try.prog 80 #[.int .i64 a0] w fun e w' => e = .returned (.bool r) ∧ Drawn0 w w' := by
 have H : ((spec_l1In.f a0 0 10000).bind fun t237 => (some t237)) = some r := h
 clear h
 obtain ⟨t237, A2, H⟩ := bA H
 obtain rfl := Option.some.inj H
 go_enter Try.func80, Try.ntmps80
 go_wp2_with (first | ((with_reducible refine gate_callee (f := 72) rfl ?_); refine goesL_ (some 4) rfl rfl Try.func72 sqk rfl #[.int .i64 a0, .int .i64 0, .int .i64 10000] rfl sqm ?_; (with_reducible refine (spec_l1In.calls a0 0 10000 t237 _ A2.out).mono ?_); rintro e w' ⟨rfl, ⟨nd, rfl⟩⟩; refine ⟨_, rfl, ?_⟩))
 go_ret
 exact ⟨sqr, by repeat (first | exact Drawn0.refl _ | apply Drawn0.step)⟩

/-! ### spec_IsName: function 117 -/
def spec_IsName.f (a0 : Int) : Option (Bool) := (spec_l1In.f a0 10 49).bind fun t238 => (some t238)
set_option maxHeartbeats 8000000 in
set_option maxRecDepth 100000 in
theorem spec_IsName.calls (a0 : Int) (r : Bool) (w : World) (h : spec_IsName.f a0 = some r) :
  Calls Try.prog 117 #[.int .i64 a0] w fun e w' => e = .returned (.bool r) ∧ Drawn0 w w' := by
 have H : ((spec_l1In.f a0 10 49).bind fun t238 => (some t238)) = some r := h
 clear h
 obtain ⟨t238, A2, H⟩ := bA H
 obtain rfl := Option.some.inj H
 go_enter Try.func117, Try.ntmps117
 go_wp2_with (first | ((with_reducible refine gate_callee (f := 72) rfl ?_); refine goesL_ (some 4) rfl rfl Try.func72 sqk rfl #[.int .i64 a0, .int .i64 10, .int .i64 49] rfl sqm ?_; (with_reducible refine (spec_l1In.calls a0 10 49 t238 _ A2.out).mono ?_); rintro e w' ⟨rfl, ⟨nd, rfl⟩⟩; refine ⟨_, rfl, ?_⟩))
 go_ret
 exact ⟨sqr, by repeat (first | exact Drawn0.refl _ | apply Drawn0.step)⟩

/-! ### spec_HasKind: function 113 -/
def spec_HasKind.f (a0 : Int) (a1 : Int) : Option (Bool) := (spec_IsName.f a0).bind fun t239 => (if t239 = true then (some ((wrap64 (Int.tdiv a0 10)) == a1)) else (some false))
set_option maxHeartbeats 8000000 in
set_option maxRecDepth 100000 in
theorem spec_HasKind.calls (a0 : Int) (a1 : Int) (r : Bool) (w : World) (h : spec_HasKind.f a0 a1 = some r) :
  Calls Try.prog 113 #[.int .i64 a0, .int .i64 a1] w fun e w' => e = .returned (.bool r) ∧ Drawn0 w w' := by
 have H : ((spec_IsName.f a0).bind fun t239 => (if t239 = true then (some ((wrap64 (Int.tdiv a0 10)) == a1)) else (some false))) = some r := h
 clear h
 obtain ⟨t239, A3, H⟩ := bA H
 by_cases c4 : t239 = true
 ·subst c4
  replace H := iT H
  obtain rfl := Option.some.inj H
  go_enter Try.func113, Try.ntmps113
  go_wp2_with (first | ((with_reducible refine gate_callee (f := 117) rfl ?_); refine goesL_ (some 6) rfl rfl Try.func117 sqk rfl #[.int .i64 a0] rfl sqm ?_; (with_reducible refine (spec_IsName.calls a0 true _ A3.out).mono ?_); rintro e w' ⟨rfl, ⟨nd, rfl⟩⟩; refine ⟨_, rfl, ?_⟩))
  go_ret
  exact ⟨sqr, by repeat (first | exact Drawn0.refl _ | apply Drawn0.step)⟩
 ·replace c4 := Bool.eq_false_iff.mpr c4
  subst c4
  replace H := iF H
  obtain rfl := Option.some.inj H
  go_enter Try.func113, Try.ntmps113
  go_wp2_with (first | ((with_reducible refine gate_callee (f := 117) rfl ?_); refine goesL_ (some 6) rfl rfl Try.func117 sqk rfl #[.int .i64 a0] rfl sqm ?_; (with_reducible refine (spec_IsName.calls a0 false _ A3.out).mono ?_); rintro e w' ⟨rfl, ⟨nd, rfl⟩⟩; refine ⟨_, rfl, ?_⟩))
  go_ret
  exact ⟨sqr, by repeat (first | exact Drawn0.refl _ | apply Drawn0.step)⟩

end Go.Proofs.Ytabpgiebhgkfhaa.XFnIssuers
