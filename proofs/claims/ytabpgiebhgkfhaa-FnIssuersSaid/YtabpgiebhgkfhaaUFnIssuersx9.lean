/- Written by this session's own program (wip/xprint, which runs over the kit's print): what the functions that the law reaches come to, each proved; and the law's row. Conditions: none. -/
import Derived.Test.YtabpgiebhgkfhaaUFnIssuersSq
import Derived.Test.YtabpgiebhgkfhaaUFnIssuersx0
import Derived.Test.YtabpgiebhgkfhaaUFnIssuersx2
import Derived.Test.YtabpgiebhgkfhaaUFnIssuersx5
import Derived.Test.YtabpgiebhgkfhaaUFnIssuersx6
import Derived.Test.YtabpgiebhgkfhaaUFnIssuersx7
import Derived.Test.YtabpgiebhgkfhaaUFnIssuersx8
namespace Go.Proofs.Ytabpgiebhgkfhaa.XFnIssuers
open Go.RowKit Go.Proofs.YtabpgiebhgkfhaaW.PrintWords Go.Proofs.YtabpgiebhgkfhaaW.PrintLast Go.Proofs.YtabpgiebhgkfhaaW.PrintMore Go.Proofs.YtabpgiebhgkfhaaSq
attribute [local go_sem] max2_int min2_int max_two min_two max_three min_three max_four min_four   -- for this text's walks alone
set_option linter.unusedVariables false
set_option linter.unusedSimpArgs false

/-! ### impl_PutFact: function 68 -/
mutual
def impl_PutFact.j0 : Nat → List (S55) → List (S55) → Int → Bool → Int → Int → Int → Int → Int → Int → Option ((List (S55)) × Bool)
 | 0, _, _, _, _, _, _, _, _, _, _ => none
 | k + 1, x0, x6, x7, x17, x200000, x200001, x200002, x200003, x200004, x200005 => if x17 = true then (some (x6, false)) else (impl_PutFact.l0 k x0 x6 x7 x200000 x200001 x200002 x200003 x200004 x200005)
def impl_PutFact.j2 : Nat → List (S55) → List (S55) → Int → Int → Int → Int → Int → Int → Int → Option ((List (S55)) × Bool)
 | 0, _, _, _, _, _, _, _, _, _ => none
 | k + 1, x0, x6, x7, x200000, x200001, x200002, x200003, x200004, x200005 => if x7 < (x0.length : Int) then (if 0 ≤ x7 then ((impl_SameClaim.f ((rd_T55 x0 x7).f0) ((rd_T55 x0 x7).f1) ((rd_T55 x0 x7).f2) ((rd_T55 x0 x7).f3) ((rd_T55 x0 x7).f4) ((rd_T55 x0 x7).f5) x200000 x200001 x200002 x200003 x200004 x200005).bind fun t208 => (impl_PutFact.j3 k x0 x6 x7 t208 x200000 x200001 x200002 x200003 x200004 x200005)) else (none)) else (impl_PutFact.j3 k x0 x6 x7 false x200000 x200001 x200002 x200003 x200004 x200005)
def impl_PutFact.j3 : Nat → List (S55) → List (S55) → Int → Bool → Int → Int → Int → Int → Int → Int → Option ((List (S55)) × Bool)
 | 0, _, _, _, _, _, _, _, _, _, _ => none
 | k + 1, x0, x6, x7, x44, x200000, x200001, x200002, x200003, x200004, x200005 => if x44 = true then (if 0 ≤ x7 then (if x7 < (x0.length : Int) then ((impl_isLater.f x200000 x200001 x200002 x200003 x200004 x200005 ((rd_T55 x0 x7).f0) ((rd_T55 x0 x7).f1) ((rd_T55 x0 x7).f2) ((rd_T55 x0 x7).f3) ((rd_T55 x0 x7).f4) ((rd_T55 x0 x7).f5)).bind fun t210 => (if t210 = true then (if x7 < (x6.length : Int) then (some ((x6.set (x7 : Int).toNat (⟨x200000, x200001, x200002, x200003, x200004, x200005⟩ : S55)), true)) else (none)) else (some (x6, true)))) else (none)) else (none)) else (if (x0.length : Int) = 30 then (some (x6, false)) else ((impl_Fact.f x6 x7 (([(⟨x200000, x200001, x200002, x200003, x200004, x200005⟩ : S55)] : List (S55)))).bind fun t215 => (some (t215, true))))
def impl_PutFact.l0 : Nat → List (S55) → List (S55) → Int → Int → Int → Int → Int → Int → Int → Option ((List (S55)) × Bool)
 | 0, _, _, _, _, _, _, _, _, _ => none
 | k + 1, x0, x6, x7, x200000, x200001, x200002, x200003, x200004, x200005 => if x7 < (x0.length : Int) then (if 0 ≤ x7 then ((impl_FactBefore.f ((rd_T55 x0 x7).f0) ((rd_T55 x0 x7).f1) ((rd_T55 x0 x7).f2) ((rd_T55 x0 x7).f3) ((rd_T55 x0 x7).f4) ((rd_T55 x0 x7).f5) x200000 x200001 x200002 x200003 x200004 x200005).bind fun t206 => (if t206 = true then (impl_PutFact.l0 k x0 x6 (wrap64 (x7 + 1)) x200000 x200001 x200002 x200003 x200004 x200005) else (impl_PutFact.j2 k x0 x6 x7 x200000 x200001 x200002 x200003 x200004 x200005))) else (none)) else (impl_PutFact.j2 k x0 x6 x7 x200000 x200001 x200002 x200003 x200004 x200005)
end
def impl_PutFact.f (k : Nat) (l0 : List (S55)) (a1_0 : Int) (a1_1 : Int) (a1_2 : Int) (a1_3 : Int) (a1_4 : Int) (a1_5 : Int) : Option ((List (S55)) × Bool) := (impl_copyFacts.f l0).bind fun t200 => ((impl_IsStore.f k l0).bind fun t203 => (if t203 = true then ((impl_IsFact.f a1_0 a1_1 a1_2 a1_3 a1_4 a1_5).bind fun t204 => (impl_PutFact.j0 k l0 t200 0 (!t204) a1_0 a1_1 a1_2 a1_3 a1_4 a1_5)) else (impl_PutFact.j0 k l0 t200 0 true a1_0 a1_1 a1_2 a1_3 a1_4 a1_5)))
def impl_PutFact.T4 : Bool × List (List Nat × List Nat) := (true, [([], []), ([], []), ([1], [1]), ([0, 2], [0, 2]), ([3], [3]), ([4], [4]), ([4], [4]), ([5, 6, 4], [4, 5, 6]), ([7, 4], [4, 7]), ([4], [4]), ([8, 9, 4, 4], [4, 8, 9]), ([4, 10], [4, 10])])
def impl_PutFact.B4 : List Nat := [0, 0, 2, 7, 15, 31, 31, 127, 255, 31, 1023, 2047]
theorem impl_PutFact.tab4 : rtab .any (opsOf Try.f68 4) = impl_PutFact.T4 := by kernel_rfl
theorem impl_PutFact.bits4 : waitsOk impl_PutFact.T4.2 impl_PutFact.B4 = true := by kernel_rfl
def impl_PutFact.T6 : Bool × List (List Nat × List Nat) := (true, [([], []), ([], []), ([1], [1]), ([0, 2], [0, 2]), ([3], [3]), ([4], [4]), ([4], [4]), ([5, 6, 4], [4, 5, 6]), ([7, 4], [4, 7]), ([4], [4]), ([8, 9, 4, 4], [4, 8, 9]), ([4, 10], [4, 10])])
def impl_PutFact.B6 : List Nat := [0, 0, 2, 7, 15, 31, 31, 127, 255, 31, 1023, 2047]
theorem impl_PutFact.tab6 : rtab .any (opsOf Try.f68 6) = impl_PutFact.T6 := by kernel_rfl
theorem impl_PutFact.bits6 : waitsOk impl_PutFact.T6.2 impl_PutFact.B6 = true := by kernel_rfl
set_option maxHeartbeats 8000000 in
set_option maxRecDepth 100000 in
theorem impl_PutFact.calls (k : Nat) (A0 : Option Addr) (c0 : Nat) (l0 : List (S55)) (a1_0 : Int) (a1_1 : Int) (a1_2 : Int) (a1_3 : Int) (a1_4 : Int) (a1_5 : Int) (r1 : List (S55)) (r2 : Bool) (w : World) (hr0 : Kd.C k55 w A0 l0.length l0) (hc0 : l0.length ≤ c0) (h : impl_PutFact.f k l0 a1_0 a1_1 a1_2 a1_3 a1_4 a1_5 = some (r1, r2)) :
  Calls Try.prog 68 #[.slice A0 l0.length c0, .agg #[.int .i64 a1_0, .int .i64 a1_1, .int .i64 a1_2, .int .i64 a1_3, .int .i64 a1_4, .int .i64 a1_5]] w fun e w' => ∃ v0_ : Value, e = .returned (.tuple #[v0_, .bool r2]) ∧ Kd.R k55 55 w' w.heap.size (fun _ => True) v0_ r1 ∧ Below w.heap.size w w' := by
 have hu55 := Try.underlying55
 have HR0 := As_.mk hr0
 have HC0 := As_.mk hc0
 clear hr0 hc0
 have HB := As_.mk (Below.refl w.heap.size w)
 have H : ((impl_copyFacts.f l0).bind fun t200 => ((impl_IsStore.f k l0).bind fun t203 => (if t203 = true then ((impl_IsFact.f a1_0 a1_1 a1_2 a1_3 a1_4 a1_5).bind fun t204 => (impl_PutFact.j0 k l0 t200 0 (!t204) a1_0 a1_1 a1_2 a1_3 a1_4 a1_5)) else (impl_PutFact.j0 k l0 t200 0 true a1_0 a1_1 a1_2 a1_3 a1_4 a1_5)))) = some (r1, r2) := h
 clear h
 obtain ⟨t200, A3, H⟩ := bA H
 have HC4 := As_.mk H
 clear H
 go_enter Try.func68, Try.ntmps68
 go_upto_region 2 with (first | ((with_reducible refine gate_dst (N := 3) rfl ?_); refine bx (N := 3) (cs := #[.int .i64 a1_0, .int .i64 a1_1, .int .i64 a1_2, .int .i64 a1_3, .int .i64 a1_4, .int .i64 a1_5]) (t := 55) ?_; intro gb199 hg w5 hbox hb; have BK199 := As_.mk (hbox); have GW199 := As_.mk ((by rw [hg]; exact (below_size sqh) : w.heap.size ≤ gb199)); have GE199 := As_.mk ((by rw [hg]; exact (below_size sqh) : w.heap.size ≤ gb199)); replace HB := As_.mk (below_step sqh hb); clear hb hbox hg) | ((with_reducible refine gate_callee (f := 67) rfl ?_); refine goesL_ (some 9) rfl rfl Try.func67 sqk rfl #[.slice A0 l0.length c0] rfl sqm ?_; (with_reducible refine (impl_copyFacts.calls _ _ l0 t200 _ ?side1 ?side2 A3.out).mono ?_); (case side1 => exact sqn (Kd.C_below HR0.out HB.out)); (case side2 => exact HC0.out); rintro e w6 ⟨v201, rfl, ho0, hb⟩; refine ⟨_, rfl, ?_⟩; have HO202 := As_.mk (Kd.R_lower (Kd.R_newB ho0 (bo BK199)) (below_size sqh)); replace BK199 := As_.mk (blk_below (bo BK199) hb); replace HB := As_.mk (below_step sqh hb); (try clear hb); (try clear ho0)))
 (try simp only [Act.put, List.setIfInBounds_toArray, List.set_cons_zero, List.set_cons_succ])
 go_cut [17] (fun v17 wc => ∃ (kq : Nat) (x17_3 : Bool), v17 = .bool x17_3 ∧ As_ (impl_PutFact.j0 kq l0 t200 0 x17_3 a1_0 a1_1 a1_2 a1_3 a1_4 a1_5 = some (r1, r2)) ∧ As_ (kq ≤ k) ∧ As_ (Kd.R k55 55 wc w.heap.size (fun k_ => k_ ≠ gb199) v201 t200) ∧ As_ (wc.heap[gb199]? = some (.cells #[.int .i64 a1_0, .int .i64 a1_1, .int .i64 a1_2, .int .i64 a1_3, .int .i64 a1_4, .int .i64 a1_5] 55 (0, 0))) ∧ As_ (Below w.heap.size w wc))
 case first =>
  have H := HC4.out
  clear HC4
  obtain ⟨t203, A7, H⟩ := bA H
  by_cases c8 : t203 = true
  ·subst c8
   replace H := iT H
   obtain ⟨t204, A9, H⟩ := bA H
   have H' := As_.mk H
   clear H
   go_wp2_with (first | ((with_reducible refine gate_callee (f := 64) rfl ?_); refine goesL_ (some 11) rfl rfl Try.func64 sqk rfl #[.slice A0 l0.length c0] rfl sqm ?_; (with_reducible refine (impl_IsStore.calls k _ _ l0 true _ ?side1 ?side2 A7.out).mono ?_); (case side1 => exact sqn (Kd.C_below HR0.out HB.out)); (case side2 => exact HC0.out); rintro e w10 ⟨rfl, hb⟩; refine ⟨_, rfl, ?_⟩; replace HO202 := As_.mk (Kd.R_below (sqq HO202.out) hb); replace BK199 := As_.mk (blk_below (bo BK199) hb); replace HB := As_.mk (below_step sqh hb); (try clear hb); obtain ⟨hcz11_0, hcz11_1, hcz11_2, hcz11_3, hcz11_4, hcz11_5, hfz11_0, hfz11_1, hfz11_2, hfz11_3, hfz11_4, hfz11_5⟩ := sd6 BK199.out) | (go_at_call 61; (with_reducible refine (impl_IsFact.calls a1_0 a1_1 a1_2 a1_3 a1_4 a1_5 t204 _ A9.out).mono ?_); rintro e w12 ⟨rfl, hb⟩; replace HO202 := As_.mk (Kd.R_below (sqq HO202.out) hb); replace BK199 := As_.mk (blk_below (bo BK199) hb); replace HB := As_.mk (below_step sqh hb); (try clear hb)))
   go_meet
   case rel => exact ⟨_, (!t204), sqr, H', ⟨sqo⟩, ⟨by (with_reducible repeat (first | apply Kd.R_alloc | apply Kd.R_drewN | apply Kd.R_drew)); exact Kd.R_mono HO202.out (fun _ hk => hk.2)⟩, ⟨sqb BK199.out⟩, ⟨sqh⟩⟩
  ·replace c8 := Bool.eq_false_iff.mpr c8
   subst c8
   replace H := iF H
   have H' := As_.mk H
   clear H
   go_wp2_with (first | ((with_reducible refine gate_callee (f := 64) rfl ?_); refine goesL_ (some 11) rfl rfl Try.func64 sqk rfl #[.slice A0 l0.length c0] rfl sqm ?_; (with_reducible refine (impl_IsStore.calls k _ _ l0 false _ ?side1 ?side2 A7.out).mono ?_); (case side1 => exact sqn (Kd.C_below HR0.out HB.out)); (case side2 => exact HC0.out); rintro e w13 ⟨rfl, hb⟩; refine ⟨_, rfl, ?_⟩; replace HO202 := As_.mk (Kd.R_below (sqq HO202.out) hb); replace BK199 := As_.mk (blk_below (bo BK199) hb); replace HB := As_.mk (below_step sqh hb); (try clear hb)))
   go_meet
   case rel => exact ⟨_, (true), sqr, H', ⟨sqo⟩, ⟨by (with_reducible repeat (first | apply Kd.R_alloc | apply Kd.R_drewN | apply Kd.R_drew)); exact Kd.R_mono HO202.out (fun _ hk => hk.2)⟩, ⟨sqb BK199.out⟩, ⟨sqh⟩⟩
 case rest =>
  clear HC4; try clear p2; try clear c6; try clear c8; try clear hcz11_0; try clear hcz11_1; try clear hcz11_2; try clear hcz11_3; try clear hcz11_4; try clear hcz11_5; try clear hfz11_0; try clear hfz11_1; try clear hfz11_2; try clear hfz11_3; try clear hfz11_4; try clear hfz11_5
  obtain ⟨kq, x17_3, rfl, HA, HJ3, HO_6, BK199, HB⟩ := hcut
  cases kq with
  | zero => exact absurd HA.out (by simp [impl_PutFact.j0])
  | succ kj3 =>
   have H := HA.out
   clear HA
   simp only [impl_PutFact.j0] at H
   by_cases c14 : x17_3 = true
   ·subst c14
    replace H := iT H
    simp only [Option.some.injEq, Prod.mk.injEq] at H
    obtain ⟨rfl, rfl⟩ := H
    go_wp2
    go_ret2
    exact ⟨_, sqe, by (with_reducible repeat (first | apply Kd.R_alloc | apply Kd.R_drewN | apply Kd.R_drew)); exact Kd.R_mono HO_6.out (fun _ hk => trivial), sqh⟩
   ·replace c14 := Bool.eq_false_iff.mpr c14
    subst c14
    replace H := iF H
    have HC15 := As_.mk H
    clear H
    go_upto_block 0 with (fail)
    go_cut [7] (fun v7 wc => ∃ (kq : Nat) (x7_14 : Int), v7 = .int .i64 x7_14 ∧ As_ (impl_PutFact.j2 kq l0 t200 x7_14 a1_0 a1_1 a1_2 a1_3 a1_4 a1_5 = some (r1, r2)) ∧ As_ (kq ≤ kj3) ∧ As_ (Kd.R k55 55 wc w.heap.size (fun k_ => k_ ≠ gb199) v201 t200) ∧ As_ (wc.heap[gb199]? = some (.cells #[.int .i64 a1_0, .int .i64 a1_1, .int .i64 a1_2, .int .i64 a1_3, .int .i64 a1_4, .int .i64 a1_5] 55 (0, 0))) ∧ As_ (Below w.heap.size w wc))
    case first =>
     have H := HC15.out
     clear HC15
     have H' := As_.mk H
     clear H
     go_wp2
     go_loopg [7] kj3 (fun kq v7 w' => ∃ (x7_2 : Int), v7 = .int .i64 x7_2 ∧ As_ (impl_PutFact.l0 kq l0 t200 x7_2 a1_0 a1_1 a1_2 a1_3 a1_4 a1_5 = some (r1, r2)) ∧ As_ (kq ≤ kj3) ∧ As_ (Kd.R k55 55 w' w.heap.size (fun k_ => k_ ≠ gb199) v201 t200) ∧ As_ (w'.heap[gb199]? = some (.cells #[.int .i64 a1_0, .int .i64 a1_1, .int .i64 a1_2, .int .i64 a1_3, .int .i64 a1_4, .int .i64 a1_5] 55 (0, 0))) ∧ As_ (Below w.heap.size w w'))
     case atStart => exact ⟨(0), sqr, H', ⟨Nat.le_refl _⟩, ⟨by (with_reducible repeat (first | apply Kd.R_alloc | apply Kd.R_drewN | apply Kd.R_drew)); exact HO_6.out⟩, ⟨sqb BK199.out⟩, ⟨sqh⟩⟩
     case round =>
      clear H'; try clear c1; try clear p2; try clear c6; try clear c8; try clear c14; try clear hcz11_0; try clear hcz11_1; try clear hcz11_2; try clear hcz11_3; try clear hcz11_4; try clear hcz11_5; try clear hfz11_0; try clear hfz11_1; try clear hfz11_2; try clear hfz11_3; try clear hfz11_4; try clear hfz11_5; try clear p2
      obtain ⟨x7_2, rfl, HA, HK2, HO_6, BK199, HB⟩ := hrel
      cases gk with
      | zero => exact absurd HA.out (by simp [impl_PutFact.l0])
      | succ k2 =>
       have H := HA.out
       clear HA
       simp only [impl_PutFact.l0] at H
       by_cases c16 : x7_2 < (l0.length : Int)
       ·rw [if_pos c16] at H
        have c16b0 : decide (x7_2 < (l0.length : Int)) = true := decide_eq_true c16
        clear c16
        (first | rw [c16b0] | (simp only [i64_w, i32_w]; rw [c16b0]) | skip)
        by_cases c17 : 0 ≤ x7_2
        ·rw [if_pos c17] at H
         have c17b0 : decide (0 ≤ x7_2) = true := decide_eq_true c17
         clear c17
         obtain ⟨t206, A18, H⟩ := bA H
         by_cases c19 : t206 = true
         ·subst c19
          replace H := iT H
          have H' := As_.mk H
          clear H
          try go_wp2
          replace HO_6 := As_.mk (Kd.R_drew HO_6.out)
          replace BK199 := As_.mk (blk_drew BK199.out)
          replace HB := As_.mk (bD_ HB.out)
          have p205 : 0 ≤ (x7_2 : Int) := of_decide_eq_true sqs
          have q205 : x7_2 < (l0.length : Int) := of_decide_eq_true sqs
          obtain ⟨ad205, e205, hx205_0, hx205_1, hx205_2, hx205_3, hx205_4, hx205_5⟩ := at_T55 HR0.out x7_2 p205 q205
          have hw205_5 := hx205_5; have hw205_4 := hx205_4; have hw205_3 := hx205_3; have hw205_2 := hx205_2; have hw205_1 := hx205_1; have hw205_0 := hx205_0
          cases e205
          replace hx205_0 := cl HB hx205_0; replace hx205_1 := cl HB hx205_1; replace hx205_2 := cl HB hx205_2; replace hx205_3 := cl HB hx205_3; replace hx205_4 := cl HB hx205_4; replace hx205_5 := cl HB hx205_5
          replace p205 := eq_true p205
          replace q205 := eq_true q205
          refine start_ (n := 12) (S := fun w' => w'.cell? ⟨gb199, 0, none⟩ = some (.int .i64 a1_0) ∧ w'.cell? ⟨gb199, 1, none⟩ = some (.int .i64 a1_1) ∧ w'.cell? ⟨gb199, 2, none⟩ = some (.int .i64 a1_2) ∧ w'.cell? ⟨gb199, 3, none⟩ = some (.int .i64 a1_3) ∧ w'.cell? ⟨gb199, 4, none⟩ = some (.int .i64 a1_4) ∧ w'.cell? ⟨gb199, 5, none⟩ = some (.int .i64 a1_5) ∧ w'.cell? (ad205.add ((x7_2).toNat * 6)) = some (.int .i64 ((rd_T55 l0 x7_2).f0)) ∧ w'.cell? ⟨(ad205.add ((x7_2).toNat * 6)).block, (ad205.add ((x7_2).toNat * 6)).off + 1, none⟩ = some (.int .i64 ((rd_T55 l0 x7_2).f1)) ∧ w'.cell? ⟨(ad205.add ((x7_2).toNat * 6)).block, (ad205.add ((x7_2).toNat * 6)).off + 2, none⟩ = some (.int .i64 ((rd_T55 l0 x7_2).f2)) ∧ w'.cell? ⟨(ad205.add ((x7_2).toNat * 6)).block, (ad205.add ((x7_2).toNat * 6)).off + 3, none⟩ = some (.int .i64 ((rd_T55 l0 x7_2).f3)) ∧ w'.cell? ⟨(ad205.add ((x7_2).toNat * 6)).block, (ad205.add ((x7_2).toNat * 6)).off + 4, none⟩ = some (.int .i64 ((rd_T55 l0 x7_2).f4)) ∧ w'.cell? ⟨(ad205.add ((x7_2).toNat * 6)).block, (ad205.add ((x7_2).toNat * 6)).off + 5, none⟩ = some (.int .i64 ((rd_T55 l0 x7_2).f5))) (ds := []) #[false, false, false, false, false, false, false, false, false, false, false, false] sqk rfl rfl (sa6 BK199.out ⟨(cl HB hw205_0), (cl HB hw205_1), (cl HB hw205_2), (cl HB hw205_3), (cl HB hw205_4), (cl HB hw205_5)⟩) (fun hHeld => ?_); refine with_tabW impl_PutFact.tab4 impl_PutFact.bits4 (fun HT_ HW_ => ?_)
          generalize wr.drew = w20 at HO_6 BK199 HB hx205_0 hx205_1 hx205_2 hx205_3 hx205_4 hx205_5 hHeld ⊢
          refine pu 0 19 ?_; refine pu 1 20 ?_; refine pu 2 21 ?_; refine pu 3 22 ?_; refine pu 4 23 ?_; refine pu 5 24 ?_; refine pu 6 25 ?_; refine pu 7 26 ?_; refine ta 8 27 ?_; refine ta 9 28 ?_
          refine on 10 (some 29) (fun K hK => ?_)
          refine goes_ Try.func106 sqk rfl #[.agg #[.int .i64 ((rd_T55 l0 x7_2).f0), .int .i64 ((rd_T55 l0 x7_2).f1), .int .i64 ((rd_T55 l0 x7_2).f2), .int .i64 ((rd_T55 l0 x7_2).f3), .int .i64 ((rd_T55 l0 x7_2).f4), .int .i64 ((rd_T55 l0 x7_2).f5)], .agg #[.int .i64 a1_0, .int .i64 a1_1, .int .i64 a1_2, .int .i64 a1_3, .int .i64 a1_4, .int .i64 a1_5]] (by rfl) rfl rfl sqm ?_
          with_reducible refine (impl_FactBefore.calls ((rd_T55 l0 x7_2).f0) ((rd_T55 l0 x7_2).f1) ((rd_T55 l0 x7_2).f2) ((rd_T55 l0 x7_2).f3) ((rd_T55 l0 x7_2).f4) ((rd_T55 l0 x7_2).f5) a1_0 a1_1 a1_2 a1_3 a1_4 a1_5 true _ A18.out).mono ?_
          rintro e w21 ⟨rfl, hb⟩
          refine ⟨_, rfl, ?_⟩
          replace HO_6 := As_.mk (Kd.R_below (sqq HO_6.out) hb)
          replace BK199 := As_.mk (blk_below (bo BK199) hb)
          replace HB := As_.mk (below_step sqh hb)
          (try clear hb)
          (try clear hb2)
          (try clear hk)
          (try clear hi)
          refine hK.out _ _ (sa6 BK199.out ⟨(cl HB hw205_0), (cl HB hw205_1), (cl HB hw205_2), (cl HB hw205_3), (cl HB hw205_4), (cl HB hw205_5)⟩) (fun hHeld => ?_)
          clear hK K; refine no 29 ?_; refine pu 11 30 ?_
          refine dn ?_
          try go_wp2
          go_roundg k2
          case measure => have := HJ3.out; have := HK2.out; omega
          case rel => exact ⟨(wrap64 (x7_2 + 1)), sqr, H', ⟨by have := HJ3.out; have := HK2.out; omega⟩, ⟨by (with_reducible repeat (first | apply Kd.R_alloc | apply Kd.R_drewN | apply Kd.R_drew)); exact HO_6.out⟩, ⟨sqb BK199.out⟩, ⟨sqh⟩⟩
         ·replace c19 := Bool.eq_false_iff.mpr c19
          subst c19
          replace H := iF H
          have H' := As_.mk H
          clear H
          try go_wp2
          replace HO_6 := As_.mk (Kd.R_drew HO_6.out)
          replace BK199 := As_.mk (blk_drew BK199.out)
          replace HB := As_.mk (bD_ HB.out)
          have p205 : 0 ≤ (x7_2 : Int) := of_decide_eq_true sqs
          have q205 : x7_2 < (l0.length : Int) := of_decide_eq_true sqs
          obtain ⟨ad205, e205, hx205_0, hx205_1, hx205_2, hx205_3, hx205_4, hx205_5⟩ := at_T55 HR0.out x7_2 p205 q205
          have hw205_5 := hx205_5; have hw205_4 := hx205_4; have hw205_3 := hx205_3; have hw205_2 := hx205_2; have hw205_1 := hx205_1; have hw205_0 := hx205_0
          cases e205
          replace hx205_0 := cl HB hx205_0; replace hx205_1 := cl HB hx205_1; replace hx205_2 := cl HB hx205_2; replace hx205_3 := cl HB hx205_3; replace hx205_4 := cl HB hx205_4; replace hx205_5 := cl HB hx205_5
          replace p205 := eq_true p205
          replace q205 := eq_true q205
          refine start_ (n := 12) (S := fun w' => w'.cell? ⟨gb199, 0, none⟩ = some (.int .i64 a1_0) ∧ w'.cell? ⟨gb199, 1, none⟩ = some (.int .i64 a1_1) ∧ w'.cell? ⟨gb199, 2, none⟩ = some (.int .i64 a1_2) ∧ w'.cell? ⟨gb199, 3, none⟩ = some (.int .i64 a1_3) ∧ w'.cell? ⟨gb199, 4, none⟩ = some (.int .i64 a1_4) ∧ w'.cell? ⟨gb199, 5, none⟩ = some (.int .i64 a1_5) ∧ w'.cell? (ad205.add ((x7_2).toNat * 6)) = some (.int .i64 ((rd_T55 l0 x7_2).f0)) ∧ w'.cell? ⟨(ad205.add ((x7_2).toNat * 6)).block, (ad205.add ((x7_2).toNat * 6)).off + 1, none⟩ = some (.int .i64 ((rd_T55 l0 x7_2).f1)) ∧ w'.cell? ⟨(ad205.add ((x7_2).toNat * 6)).block, (ad205.add ((x7_2).toNat * 6)).off + 2, none⟩ = some (.int .i64 ((rd_T55 l0 x7_2).f2)) ∧ w'.cell? ⟨(ad205.add ((x7_2).toNat * 6)).block, (ad205.add ((x7_2).toNat * 6)).off + 3, none⟩ = some (.int .i64 ((rd_T55 l0 x7_2).f3)) ∧ w'.cell? ⟨(ad205.add ((x7_2).toNat * 6)).block, (ad205.add ((x7_2).toNat * 6)).off + 4, none⟩ = some (.int .i64 ((rd_T55 l0 x7_2).f4)) ∧ w'.cell? ⟨(ad205.add ((x7_2).toNat * 6)).block, (ad205.add ((x7_2).toNat * 6)).off + 5, none⟩ = some (.int .i64 ((rd_T55 l0 x7_2).f5))) (ds := []) #[false, false, false, false, false, false, false, false, false, false, false, false] sqk rfl rfl (sa6 BK199.out ⟨(cl HB hw205_0), (cl HB hw205_1), (cl HB hw205_2), (cl HB hw205_3), (cl HB hw205_4), (cl HB hw205_5)⟩) (fun hHeld => ?_); refine with_tabW impl_PutFact.tab4 impl_PutFact.bits4 (fun HT_ HW_ => ?_)
          generalize wr.drew = w22 at HO_6 BK199 HB hx205_0 hx205_1 hx205_2 hx205_3 hx205_4 hx205_5 hHeld ⊢
          refine pu 0 19 ?_; refine pu 1 20 ?_; refine pu 2 21 ?_; refine pu 3 22 ?_; refine pu 4 23 ?_; refine pu 5 24 ?_; refine pu 6 25 ?_; refine pu 7 26 ?_; refine ta 8 27 ?_; refine ta 9 28 ?_
          refine on 10 (some 29) (fun K hK => ?_)
          refine goes_ Try.func106 sqk rfl #[.agg #[.int .i64 ((rd_T55 l0 x7_2).f0), .int .i64 ((rd_T55 l0 x7_2).f1), .int .i64 ((rd_T55 l0 x7_2).f2), .int .i64 ((rd_T55 l0 x7_2).f3), .int .i64 ((rd_T55 l0 x7_2).f4), .int .i64 ((rd_T55 l0 x7_2).f5)], .agg #[.int .i64 a1_0, .int .i64 a1_1, .int .i64 a1_2, .int .i64 a1_3, .int .i64 a1_4, .int .i64 a1_5]] (by rfl) rfl rfl sqm ?_
          with_reducible refine (impl_FactBefore.calls ((rd_T55 l0 x7_2).f0) ((rd_T55 l0 x7_2).f1) ((rd_T55 l0 x7_2).f2) ((rd_T55 l0 x7_2).f3) ((rd_T55 l0 x7_2).f4) ((rd_T55 l0 x7_2).f5) a1_0 a1_1 a1_2 a1_3 a1_4 a1_5 false _ A18.out).mono ?_
          rintro e w23 ⟨rfl, hb⟩
          refine ⟨_, rfl, ?_⟩
          replace HO_6 := As_.mk (Kd.R_below (sqq HO_6.out) hb)
          replace BK199 := As_.mk (blk_below (bo BK199) hb)
          replace HB := As_.mk (below_step sqh hb)
          (try clear hb)
          (try clear hb2)
          (try clear hk)
          (try clear hi)
          refine hK.out _ _ (sa6 BK199.out ⟨(cl HB hw205_0), (cl HB hw205_1), (cl HB hw205_2), (cl HB hw205_3), (cl HB hw205_4), (cl HB hw205_5)⟩) (fun hHeld => ?_)
          clear hK K; refine no 29 ?_; refine pu 11 30 ?_
          refine dn ?_
          try go_wp2
          go_meet
          case rel => exact ⟨_, (x7_2), sqr, H', ⟨by have := HJ3.out; have := HK2.out; first | omega | exact Nat.le_refl _⟩, ⟨by (with_reducible repeat (first | apply Kd.R_alloc | apply Kd.R_drewN | apply Kd.R_drew)); exact HO_6.out⟩, ⟨sqb BK199.out⟩, ⟨sqh⟩⟩
        ·rw [if_neg c17] at H
         exact absurd H (by simp)
       ·rw [if_neg c16] at H
        have c16b0 : decide (x7_2 < (l0.length : Int)) = false := decide_eq_false c16
        clear c16
        (first | rw [c16b0] | (simp only [i64_w, i32_w]; rw [c16b0]) | skip)
        have H' := As_.mk H
        clear H
        try go_wp2
        replace HO_6 := As_.mk (Kd.R_drew HO_6.out)
        replace BK199 := As_.mk (blk_drew BK199.out)
        replace HB := As_.mk (bD_ HB.out)
        refine start_ (n := 12) (S := fun w' => True) (ds := []) #[false, false, false, false, false, false, false, false, false, false, false, false] sqk rfl rfl trivial (fun hHeld => ?_); refine with_tabW impl_PutFact.tab4 impl_PutFact.bits4 (fun HT_ HW_ => ?_)
        generalize wr.drew = w24 at HO_6 BK199 HB hHeld ⊢
        refine pu 0 19 ?_; refine pu 1 20 ?_; refine pu 2 21 ?_; refine pu 3 22 ?_; refine pu 4 23 ?_
        refine pure_ (i := 5) (N := some 24) (v := undef) (a' := ?_) #[true, true, true, true, true, true, false, false, false, false, false, false] rfl rfl (any_of HT_.out sqk) (fun _ _ _ h => h) (Or.inr ⟨by rfl, rfl⟩) ?_ ?_
        rotate_left
        ·simp only [Act.put, List.setIfInBounds_toArray, List.set_cons_zero, List.set_cons_succ, i64_w, i32_w]
         rfl
        refine pure_ (i := 6) (N := some 25) (v := undef) (a' := ?_) #[true, true, true, true, true, true, true, false, false, false, false, false] rfl rfl (any_of HT_.out sqk) (fun _ _ _ h => h) (Or.inr ⟨by rfl, rfl⟩) ?_ ?_
        rotate_left
        ·simp only [Act.put, List.setIfInBounds_toArray, List.set_cons_zero, List.set_cons_succ, i64_w, i32_w]
         rfl
        refine pure_ (i := 7) (N := some 26) (v := undef) (a' := ?_) #[true, true, true, true, true, true, true, true, false, false, false, false] rfl rfl (any_of HT_.out sqk) (fun _ _ _ h => h) (Or.inr ⟨by rfl, rfl⟩) ?_ ?_
        rotate_left
        ·simp only [Act.put, List.setIfInBounds_toArray, List.set_cons_zero, List.set_cons_succ, i64_w, i32_w]
         rfl
        refine pure_ (i := 8) (N := some 27) (v := undef) (a' := ?_) #[true, true, true, true, true, true, true, true, true, false, false, false] rfl rfl (any_of HT_.out sqk) (fun _ _ _ h => h) (Or.inr ⟨by rfl, rfl⟩) ?_ ?_
        rotate_left
        ·simp only [Act.put, List.setIfInBounds_toArray, List.set_cons_zero, List.set_cons_succ, i64_w, i32_w]
         rfl
        refine pure_ (i := 9) (N := some 28) (v := undef) (a' := ?_) #[true, true, true, true, true, true, true, true, true, true, false, false] rfl rfl (any_of HT_.out sqk) (fun _ _ _ h => h) (Or.inr ⟨by rfl, rfl⟩) ?_ ?_
        rotate_left
        ·simp only [Act.put, List.setIfInBounds_toArray, List.set_cons_zero, List.set_cons_succ, i64_w, i32_w]
         rfl
        refine pure_ (i := 10) (N := some 29) (v := undef) (a' := ?_) #[true, true, true, true, true, true, true, true, true, true, true, false] rfl rfl (any_of HT_.out sqk) (fun _ _ _ h => h) (Or.inr ⟨by rfl, rfl⟩) ?_ ?_
        rotate_left
        ·simp only [Act.put, List.setIfInBounds_toArray, List.set_cons_zero, List.set_cons_succ, i64_w, i32_w]
         rfl
        refine pu 11 30 ?_
        refine dn ?_
        try go_wp2
        go_meet
        case rel => exact ⟨_, (x7_2), sqr, H', ⟨by have := HJ3.out; have := HK2.out; first | omega | exact Nat.le_refl _⟩, ⟨by (with_reducible repeat (first | apply Kd.R_alloc | apply Kd.R_drewN | apply Kd.R_drew)); exact HO_6.out⟩, ⟨sqb BK199.out⟩, ⟨sqh⟩⟩
    case rest =>
     clear HC15; try clear c1; try clear p2; try clear q2; try clear hx2; try clear c6; try clear p6; try clear c8; try clear c10; try clear c14; try clear c16; try clear c16b0; try clear c17; try clear c17b0; try clear c19; try clear p20; try clear q20; try clear hx20; try clear hcz11_0; try clear hcz11_1; try clear hcz11_2; try clear hcz11_3; try clear hcz11_4; try clear hcz11_5; try clear hfz11_0; try clear hfz11_1; try clear hfz11_2; try clear hfz11_3; try clear hfz11_4; try clear hfz11_5; try clear hx205_0; try clear hx205_1; try clear hx205_2; try clear hx205_3; try clear hx205_4; try clear hx205_5; try clear p2; try clear p205; try clear q205
     obtain ⟨kq, x7_14, rfl, HA, HJ14, HO_6, BK199, HB⟩ := hcut
     cases kq with
     | zero => exact absurd HA.out (by simp [impl_PutFact.j2])
     | succ kj14 =>
      have H := HA.out
      clear HA
      simp only [impl_PutFact.j2] at H
      have HC25 := As_.mk H
      clear H
      go_upto_region 6 with (fail)
      go_cut [44] (fun v44 wc => ∃ (kq : Nat) (x44_24 : Bool), v44 = .bool x44_24 ∧ As_ (impl_PutFact.j3 kq l0 t200 x7_14 x44_24 a1_0 a1_1 a1_2 a1_3 a1_4 a1_5 = some (r1, r2)) ∧ As_ (kq ≤ kj14) ∧ As_ (Kd.R k55 55 wc w.heap.size (fun k_ => k_ ≠ gb199) v201 t200) ∧ As_ (wc.heap[gb199]? = some (.cells #[.int .i64 a1_0, .int .i64 a1_1, .int .i64 a1_2, .int .i64 a1_3, .int .i64 a1_4, .int .i64 a1_5] 55 (0, 0))) ∧ As_ (Below w.heap.size w wc))
      case first =>
       have H := HC25.out
       clear HC25
       by_cases c26 : x7_14 < (l0.length : Int)
       ·rw [if_pos c26] at H
        have c26b0 : decide (x7_14 < (l0.length : Int)) = true := decide_eq_true c26
        clear c26
        (first | rw [c26b0] | (simp only [i64_w, i32_w]; rw [c26b0]) | skip)
        by_cases c27 : 0 ≤ x7_14
        ·rw [if_pos c27] at H
         have c27b0 : decide (0 ≤ x7_14) = true := decide_eq_true c27
         clear c27
         obtain ⟨t208, A28, H⟩ := bA H
         have H' := As_.mk H
         clear H
         try go_wp2
         replace HO_6 := As_.mk (Kd.R_drew HO_6.out)
         replace BK199 := As_.mk (blk_drew BK199.out)
         replace HB := As_.mk (bD_ HB.out)
         have p207 : 0 ≤ (x7_14 : Int) := of_decide_eq_true sqs
         have q207 : x7_14 < (l0.length : Int) := of_decide_eq_true sqs
         obtain ⟨ad207, e207, hx207_0, hx207_1, hx207_2, hx207_3, hx207_4, hx207_5⟩ := at_T55 HR0.out x7_14 p207 q207
         have hw207_5 := hx207_5; have hw207_4 := hx207_4; have hw207_3 := hx207_3; have hw207_2 := hx207_2; have hw207_1 := hx207_1; have hw207_0 := hx207_0
         cases e207
         replace hx207_0 := cl HB hx207_0; replace hx207_1 := cl HB hx207_1; replace hx207_2 := cl HB hx207_2; replace hx207_3 := cl HB hx207_3; replace hx207_4 := cl HB hx207_4; replace hx207_5 := cl HB hx207_5
         replace p207 := eq_true p207
         replace q207 := eq_true q207
         refine start_ (n := 12) (S := fun w' => w'.cell? ⟨gb199, 0, none⟩ = some (.int .i64 a1_0) ∧ w'.cell? ⟨gb199, 1, none⟩ = some (.int .i64 a1_1) ∧ w'.cell? ⟨gb199, 2, none⟩ = some (.int .i64 a1_2) ∧ w'.cell? ⟨gb199, 3, none⟩ = some (.int .i64 a1_3) ∧ w'.cell? ⟨gb199, 4, none⟩ = some (.int .i64 a1_4) ∧ w'.cell? ⟨gb199, 5, none⟩ = some (.int .i64 a1_5) ∧ w'.cell? (ad207.add ((x7_14).toNat * 6)) = some (.int .i64 ((rd_T55 l0 x7_14).f0)) ∧ w'.cell? ⟨(ad207.add ((x7_14).toNat * 6)).block, (ad207.add ((x7_14).toNat * 6)).off + 1, none⟩ = some (.int .i64 ((rd_T55 l0 x7_14).f1)) ∧ w'.cell? ⟨(ad207.add ((x7_14).toNat * 6)).block, (ad207.add ((x7_14).toNat * 6)).off + 2, none⟩ = some (.int .i64 ((rd_T55 l0 x7_14).f2)) ∧ w'.cell? ⟨(ad207.add ((x7_14).toNat * 6)).block, (ad207.add ((x7_14).toNat * 6)).off + 3, none⟩ = some (.int .i64 ((rd_T55 l0 x7_14).f3)) ∧ w'.cell? ⟨(ad207.add ((x7_14).toNat * 6)).block, (ad207.add ((x7_14).toNat * 6)).off + 4, none⟩ = some (.int .i64 ((rd_T55 l0 x7_14).f4)) ∧ w'.cell? ⟨(ad207.add ((x7_14).toNat * 6)).block, (ad207.add ((x7_14).toNat * 6)).off + 5, none⟩ = some (.int .i64 ((rd_T55 l0 x7_14).f5))) (ds := []) #[false, false, false, false, false, false, false, false, false, false, false, false] sqk rfl rfl (sa6 BK199.out ⟨(cl HB hw207_0), (cl HB hw207_1), (cl HB hw207_2), (cl HB hw207_3), (cl HB hw207_4), (cl HB hw207_5)⟩) (fun hHeld => ?_); refine with_tabW impl_PutFact.tab6 impl_PutFact.bits6 (fun HT_ HW_ => ?_)
         generalize wc.drew = w29 at HO_6 BK199 HB hx207_0 hx207_1 hx207_2 hx207_3 hx207_4 hx207_5 hHeld ⊢
         refine pu 0 33 ?_; refine pu 1 34 ?_; refine pu 2 35 ?_; refine pu 3 36 ?_; refine pu 4 37 ?_; refine pu 5 38 ?_; refine pu 6 39 ?_; refine pu 7 40 ?_; refine ta 8 41 ?_; refine ta 9 42 ?_
         refine on 10 (some 43) (fun K hK => ?_)
         refine goes_ Try.func110 sqk rfl #[.agg #[.int .i64 ((rd_T55 l0 x7_14).f0), .int .i64 ((rd_T55 l0 x7_14).f1), .int .i64 ((rd_T55 l0 x7_14).f2), .int .i64 ((rd_T55 l0 x7_14).f3), .int .i64 ((rd_T55 l0 x7_14).f4), .int .i64 ((rd_T55 l0 x7_14).f5)], .agg #[.int .i64 a1_0, .int .i64 a1_1, .int .i64 a1_2, .int .i64 a1_3, .int .i64 a1_4, .int .i64 a1_5]] (by rfl) rfl rfl sqm ?_
         with_reducible refine (impl_SameClaim.calls ((rd_T55 l0 x7_14).f0) ((rd_T55 l0 x7_14).f1) ((rd_T55 l0 x7_14).f2) ((rd_T55 l0 x7_14).f3) ((rd_T55 l0 x7_14).f4) ((rd_T55 l0 x7_14).f5) a1_0 a1_1 a1_2 a1_3 a1_4 a1_5 t208 _ A28.out).mono ?_
         rintro e w30 ⟨rfl, hb⟩
         refine ⟨_, rfl, ?_⟩
         replace HO_6 := As_.mk (Kd.R_below (sqq HO_6.out) hb)
         replace BK199 := As_.mk (blk_below (bo BK199) hb)
         replace HB := As_.mk (below_step sqh hb)
         (try clear hb)
         (try clear hb2)
         (try clear hk)
         (try clear hi)
         refine hK.out _ _ (sa6 BK199.out ⟨(cl HB hw207_0), (cl HB hw207_1), (cl HB hw207_2), (cl HB hw207_3), (cl HB hw207_4), (cl HB hw207_5)⟩) (fun hHeld => ?_)
         clear hK K; refine no 43 ?_; refine pu 11 44 ?_
         refine dn ?_
         try go_wp2
         go_meet
         case rel => exact ⟨_, (t208), sqr, H', ⟨by have := HJ3.out; have := HJ14.out; first | omega | exact Nat.le_refl _⟩, ⟨by (with_reducible repeat (first | apply Kd.R_alloc | apply Kd.R_drewN | apply Kd.R_drew)); exact HO_6.out⟩, ⟨sqb BK199.out⟩, ⟨sqh⟩⟩
        ·rw [if_neg c27] at H
         exact absurd H (by simp)
       ·rw [if_neg c26] at H
        have c26b0 : decide (x7_14 < (l0.length : Int)) = false := decide_eq_false c26
        clear c26
        (first | rw [c26b0] | (simp only [i64_w, i32_w]; rw [c26b0]) | skip)
        have H' := As_.mk H
        clear H
        try go_wp2
        replace HO_6 := As_.mk (Kd.R_drew HO_6.out)
        replace BK199 := As_.mk (blk_drew BK199.out)
        replace HB := As_.mk (bD_ HB.out)
        refine start_ (n := 12) (S := fun w' => True) (ds := []) #[false, false, false, false, false, false, false, false, false, false, false, false] sqk rfl rfl trivial (fun hHeld => ?_); refine with_tabW impl_PutFact.tab6 impl_PutFact.bits6 (fun HT_ HW_ => ?_)
        generalize wc.drew = w31 at HO_6 BK199 HB hHeld ⊢
        refine pu 0 33 ?_; refine pu 1 34 ?_; refine pu 2 35 ?_; refine pu 3 36 ?_; refine pu 4 37 ?_
        refine pure_ (i := 5) (N := some 38) (v := undef) (a' := ?_) #[true, true, true, true, true, true, false, false, false, false, false, false] rfl rfl (any_of HT_.out sqk) (fun _ _ _ h => h) (Or.inr ⟨by rfl, rfl⟩) ?_ ?_
        rotate_left
        ·simp only [Act.put, List.setIfInBounds_toArray, List.set_cons_zero, List.set_cons_succ, i64_w, i32_w]
         rfl
        refine pure_ (i := 6) (N := some 39) (v := undef) (a' := ?_) #[true, true, true, true, true, true, true, false, false, false, false, false] rfl rfl (any_of HT_.out sqk) (fun _ _ _ h => h) (Or.inr ⟨by rfl, rfl⟩) ?_ ?_
        rotate_left
        ·simp only [Act.put, List.setIfInBounds_toArray, List.set_cons_zero, List.set_cons_succ, i64_w, i32_w]
         rfl
        refine pure_ (i := 7) (N := some 40) (v := undef) (a' := ?_) #[true, true, true, true, true, true, true, true, false, false, false, false] rfl rfl (any_of HT_.out sqk) (fun _ _ _ h => h) (Or.inr ⟨by rfl, rfl⟩) ?_ ?_
        rotate_left
        ·simp only [Act.put, List.setIfInBounds_toArray, List.set_cons_zero, List.set_cons_succ, i64_w, i32_w]
         rfl
        refine pure_ (i := 8) (N := some 41) (v := undef) (a' := ?_) #[true, true, true, true, true, true, true, true, true, false, false, false] rfl rfl (any_of HT_.out sqk) (fun _ _ _ h => h) (Or.inr ⟨by rfl, rfl⟩) ?_ ?_
        rotate_left
        ·simp only [Act.put, List.setIfInBounds_toArray, List.set_cons_zero, List.set_cons_succ, i64_w, i32_w]
         rfl
        refine pure_ (i := 9) (N := some 42) (v := undef) (a' := ?_) #[true, true, true, true, true, true, true, true, true, true, false, false] rfl rfl (any_of HT_.out sqk) (fun _ _ _ h => h) (Or.inr ⟨by rfl, rfl⟩) ?_ ?_
        rotate_left
        ·simp only [Act.put, List.setIfInBounds_toArray, List.set_cons_zero, List.set_cons_succ, i64_w, i32_w]
         rfl
        refine pure_ (i := 10) (N := some 43) (v := undef) (a' := ?_) #[true, true, true, true, true, true, true, true, true, true, true, false] rfl rfl (any_of HT_.out sqk) (fun _ _ _ h => h) (Or.inr ⟨by rfl, rfl⟩) ?_ ?_
        rotate_left
        ·simp only [Act.put, List.setIfInBounds_toArray, List.set_cons_zero, List.set_cons_succ, i64_w, i32_w]
         rfl
        refine pu 11 44 ?_
        refine dn ?_
        try go_wp2
        go_meet
        case rel => exact ⟨_, (false), sqr, H', ⟨by have := HJ3.out; have := HJ14.out; first | omega | exact Nat.le_refl _⟩, ⟨by (with_reducible repeat (first | apply Kd.R_alloc | apply Kd.R_drewN | apply Kd.R_drew)); exact HO_6.out⟩, ⟨sqb BK199.out⟩, ⟨sqh⟩⟩
      case rest =>
       clear HC25; try clear c1; try clear c2; try clear p2; try clear q2; try clear hx2; try clear c6; try clear p6; try clear c8; try clear c10; try clear c11; try clear c14; try clear c16; try clear c16b0; try clear c17; try clear c17b0; try clear c19; try clear p20; try clear q20; try clear hx20; try clear c26; try clear c26b0; try clear c27; try clear c27b0; try clear hcz11_0; try clear hcz11_1; try clear hcz11_2; try clear hcz11_3; try clear hcz11_4; try clear hcz11_5; try clear hfz11_0; try clear hfz11_1; try clear hfz11_2; try clear hfz11_3; try clear hfz11_4; try clear hfz11_5; try clear hx205_0; try clear hx205_1; try clear hx205_2; try clear hx205_3; try clear hx205_4; try clear hx205_5; try clear hx207_0; try clear hx207_1; try clear hx207_2; try clear hx207_3; try clear hx207_4; try clear hx207_5; try clear p2; try clear p20; try clear p205; try clear p207; try clear p6
       try clear q2; try clear q20; try clear q205; try clear q207
       obtain ⟨kq, x44_24, rfl, HA, HJ24, HO_6, BK199, HB⟩ := hcut
       cases kq with
       | zero => exact absurd HA.out (by simp [impl_PutFact.j3])
       | succ kj24 =>
        have H := HA.out
        clear HA
        simp only [impl_PutFact.j3] at H
        by_cases c32 : x44_24 = true
        ·subst c32
         replace H := iT H
         by_cases c33 : 0 ≤ x7_14
         ·rw [if_pos c33] at H
          have c33b0 : decide (0 ≤ x7_14) = true := decide_eq_true c33
          clear c33
          by_cases c34 : x7_14 < (l0.length : Int)
          ·rw [if_pos c34] at H
           have c34b0 : decide (x7_14 < (l0.length : Int)) = true := decide_eq_true c34
           clear c34
           obtain ⟨t210, A35, H⟩ := bA H
           by_cases c36 : t210 = true
           ·subst c36
            replace H := iT H
            by_cases c37 : x7_14 < (t200.length : Int)
            ·rw [if_pos c37] at H
             have c37b0 : decide (x7_14 < (t200.length : Int)) = true := decide_eq_true c37
             clear c37
             obtain ⟨y211, hy211⟩ : ∃ y_ : List (S55), y_ = (t200.set (x7_14 : Int).toNat (⟨a1_0, a1_1, a1_2, a1_3, a1_4, a1_5⟩ : S55)) := ⟨_, rfl⟩
             replace H : (some (y211, true)) = some (r1, r2) := by first | (rw [hy211]; with_reducible exact H) | (have H2_ := (Option.bind_some _ _).symm.trans H; rw [hy211]; with_reducible exact H2_) | (have H2_ := (Option.bind_some _ _).symm.trans H; with_reducible exact H2_) | with_reducible exact H | (rw [hy211]; exact H) | exact H
             have Ny211 := As_.mk hy211
             clear hy211
             simp only [Option.some.injEq, Prod.mk.injEq] at H
             obtain ⟨rfl, rfl⟩ := H
             try go_wp2
             replace HO_6 := As_.mk (Kd.R_drew HO_6.out)
             replace BK199 := As_.mk (blk_drew BK199.out)
             replace HB := As_.mk (bD_ HB.out)
             have p209 : 0 ≤ (x7_14 : Int) := of_decide_eq_true sqs
             have q209 : x7_14 < (l0.length : Int) := of_decide_eq_true sqs
             obtain ⟨ad209, e209, hx209_0, hx209_1, hx209_2, hx209_3, hx209_4, hx209_5⟩ := at_T55 HR0.out x7_14 p209 q209
             have hw209_5 := hx209_5; have hw209_4 := hx209_4; have hw209_3 := hx209_3; have hw209_2 := hx209_2; have hw209_1 := hx209_1; have hw209_0 := hx209_0
             cases e209
             replace hx209_0 := cl HB hx209_0; replace hx209_1 := cl HB hx209_1; replace hx209_2 := cl HB hx209_2; replace hx209_3 := cl HB hx209_3; replace hx209_4 := cl HB hx209_4; replace hx209_5 := cl HB hx209_5
             replace p209 := eq_true p209
             replace q209 := eq_true q209
             refine start_ (n := 6) (S := fun w' => w'.cell? ⟨gb199, 0, none⟩ = some (.int .i64 a1_0) ∧ w'.cell? ⟨gb199, 1, none⟩ = some (.int .i64 a1_1) ∧ w'.cell? ⟨gb199, 2, none⟩ = some (.int .i64 a1_2) ∧ w'.cell? ⟨gb199, 3, none⟩ = some (.int .i64 a1_3) ∧ w'.cell? ⟨gb199, 4, none⟩ = some (.int .i64 a1_4) ∧ w'.cell? ⟨gb199, 5, none⟩ = some (.int .i64 a1_5) ∧ w'.cell? (ad209.add ((x7_14).toNat * 6)) = some (.int .i64 ((rd_T55 l0 x7_14).f0)) ∧ w'.cell? ⟨(ad209.add ((x7_14).toNat * 6)).block, (ad209.add ((x7_14).toNat * 6)).off + 1, none⟩ = some (.int .i64 ((rd_T55 l0 x7_14).f1)) ∧ w'.cell? ⟨(ad209.add ((x7_14).toNat * 6)).block, (ad209.add ((x7_14).toNat * 6)).off + 2, none⟩ = some (.int .i64 ((rd_T55 l0 x7_14).f2)) ∧ w'.cell? ⟨(ad209.add ((x7_14).toNat * 6)).block, (ad209.add ((x7_14).toNat * 6)).off + 3, none⟩ = some (.int .i64 ((rd_T55 l0 x7_14).f3)) ∧ w'.cell? ⟨(ad209.add ((x7_14).toNat * 6)).block, (ad209.add ((x7_14).toNat * 6)).off + 4, none⟩ = some (.int .i64 ((rd_T55 l0 x7_14).f4)) ∧ w'.cell? ⟨(ad209.add ((x7_14).toNat * 6)).block, (ad209.add ((x7_14).toNat * 6)).off + 5, none⟩ = some (.int .i64 ((rd_T55 l0 x7_14).f5))) (ds := []) #[false, false, false, false, false, false] sqk rfl rfl (sa6 BK199.out ⟨(cl HB hw209_0), (cl HB hw209_1), (cl HB hw209_2), (cl HB hw209_3), (cl HB hw209_4), (cl HB hw209_5)⟩) (fun hHeld => ?_)
             generalize wc.drew = w39 at HO_6 BK199 HB hx209_0 hx209_1 hx209_2 hx209_3 hx209_4 hx209_5 hHeld ⊢
             refine pu 1 46 ?_; refine pu 2 47 ?_; refine pu 3 48 ?_; refine ta 0 45 ?_; refine ta 4 49 ?_
             refine on 5 (some 50) (fun K hK => ?_)
             refine goes_ Try.func111 sqk rfl #[.agg #[.int .i64 a1_0, .int .i64 a1_1, .int .i64 a1_2, .int .i64 a1_3, .int .i64 a1_4, .int .i64 a1_5], .agg #[.int .i64 ((rd_T55 l0 x7_14).f0), .int .i64 ((rd_T55 l0 x7_14).f1), .int .i64 ((rd_T55 l0 x7_14).f2), .int .i64 ((rd_T55 l0 x7_14).f3), .int .i64 ((rd_T55 l0 x7_14).f4), .int .i64 ((rd_T55 l0 x7_14).f5)]] (by rfl) rfl rfl sqm ?_
             with_reducible refine (impl_isLater.calls a1_0 a1_1 a1_2 a1_3 a1_4 a1_5 ((rd_T55 l0 x7_14).f0) ((rd_T55 l0 x7_14).f1) ((rd_T55 l0 x7_14).f2) ((rd_T55 l0 x7_14).f3) ((rd_T55 l0 x7_14).f4) ((rd_T55 l0 x7_14).f5) true _ A35.out).mono ?_
             rintro e w40 ⟨rfl, hb⟩
             refine ⟨_, rfl, ?_⟩
             replace HO_6 := As_.mk (Kd.R_below (sqq HO_6.out) hb)
             replace BK199 := As_.mk (blk_below (bo BK199) hb)
             replace HB := As_.mk (below_step sqh hb)
             (try clear hb)
             (try clear hb2)
             (try clear hk)
             (try clear hi)
             refine hK.out _ _ (sa6 BK199.out ⟨(cl HB hw209_0), (cl HB hw209_1), (cl HB hw209_2), (cl HB hw209_3), (cl HB hw209_4), (cl HB hw209_5)⟩) (fun hHeld => ?_)
             clear hK K; refine no 50 ?_
             refine dn ?_
             obtain ⟨hcz41_0, hcz41_1, hcz41_2, hcz41_3, hcz41_4, hcz41_5, hfz41_0, hfz41_1, hfz41_2, hfz41_3, hfz41_4, hfz41_5⟩ := sd6 BK199.out
             have p38 : 0 ≤ (x7_14 : Int) := of_decide_eq_true sqs
             have q38 : (x7_14 : Int) < ((t200.length : Int) : Int) := of_decide_eq_true sqs
             obtain ⟨go38, co38, eo38, gb38, gl38, cl38, HG38⟩ := Kd.R_form HO_6.out (by omega)
             (first | cases eo38 | (injection eo38 with ea_ en_ ec_; (first | subst ea_ | (injection ea_ with ea_; subst ea_)); subst ec_; clear en_))
             have GB38 := As_.mk gb38
             have GG38 := As_.mk HG38
             clear gb38 gl38 HG38
             obtain ⟨ce38, hcl38, hM38, hcc38, hfr38⟩ := Kd.R_elem HO_6.out z55 (x7_14 : Int) p38 q38
             obtain rfl := k55_openM hM38
             have hx38_0 : w40.cell? ⟨go38, (x7_14 : Int).toNat * 6, none⟩ = some (.int .i64 ((rd_T55 t200 x7_14).f0)) := hcc38 0 _ rfl
             have hx38_1 : w40.cell? ⟨go38, (x7_14 : Int).toNat * 6 + 1, none⟩ = some (.int .i64 ((rd_T55 t200 x7_14).f1)) := hcc38 1 _ rfl
             have hx38_2 : w40.cell? ⟨go38, (x7_14 : Int).toNat * 6 + 2, none⟩ = some (.int .i64 ((rd_T55 t200 x7_14).f2)) := hcc38 2 _ rfl
             have hx38_3 : w40.cell? ⟨go38, (x7_14 : Int).toNat * 6 + 3, none⟩ = some (.int .i64 ((rd_T55 t200 x7_14).f3)) := hcc38 3 _ rfl
             have hx38_4 : w40.cell? ⟨go38, (x7_14 : Int).toNat * 6 + 4, none⟩ = some (.int .i64 ((rd_T55 t200 x7_14).f4)) := hcc38 4 _ rfl
             have hx38_5 : w40.cell? ⟨go38, (x7_14 : Int).toNat * 6 + 5, none⟩ = some (.int .i64 ((rd_T55 t200 x7_14).f5)) := hcc38 5 _ rfl
             have hf38_0 : w40.frozen? ⟨go38, (x7_14 : Int).toNat * 6, none⟩ = false := hfr38 0
             have hf38_1 : w40.frozen? ⟨go38, (x7_14 : Int).toNat * 6 + 1, none⟩ = false := hfr38 1
             have hf38_2 : w40.frozen? ⟨go38, (x7_14 : Int).toNat * 6 + 2, none⟩ = false := hfr38 2
             have hf38_3 : w40.frozen? ⟨go38, (x7_14 : Int).toNat * 6 + 3, none⟩ = false := hfr38 3
             have hf38_4 : w40.frozen? ⟨go38, (x7_14 : Int).toNat * 6 + 4, none⟩ = false := hfr38 4
             have hf38_5 : w40.frozen? ⟨go38, (x7_14 : Int).toNat * 6 + 5, none⟩ = false := hfr38 5
             clear hcl38 hcc38 hfr38 hM38
             replace p38 := eq_true p38
             replace q38 := eq_true q38
             have HX42 := As_.mk (show Kd.R k55 55 w40 w.heap.size (fun k_ => k_ ≠ gb199) (.slice (some ⟨go38, 0, none⟩) t200.length co38) t200 from (sqq HO_6.out))
             obtain ⟨ce42, hcl42, hM42, hcc42, hfr42⟩ := Kd.R_elem HX42.out z55 (x7_14 : Int) (of_decide_eq_true sqs) (by have h_ : (x7_14 : Int) < ((t200.length : Int) : Int) := of_decide_eq_true sqs; first | exact h_ | (have e_ := (Kd.R_reads' HO_6.out).1; omega) | simpa using h_)
             obtain rfl := k55_openM hM42
             have HP42 := Kd.R_seg HX42.out (x7_14 : Int) (of_decide_eq_true sqs) (by have h_ : (x7_14 : Int) < ((t200.length : Int) : Int) := of_decide_eq_true sqs; first | exact h_ | (have e_ := (Kd.R_reads' HO_6.out).1; omega) | simpa using h_) (seg := [.int .i64 a1_0, .int .i64 a1_1, .int .i64 a1_2, .int .i64 a1_3, .int .i64 a1_4, .int .i64 a1_5]) (j := 0) hcl42 hcc42 (show 6 ≤ 6 from by decide) (x' := (⟨a1_0, a1_1, a1_2, a1_3, a1_4, a1_5⟩ : S55)) (k55_mkM _ _ _ (⟨a1_0, a1_1, a1_2, a1_3, a1_4, a1_5⟩ : S55) ) (fun _ hk => hk)
             have hx42_0 := hcc42 0 _ rfl
             (try simp only [show (k55).sz = 6 from rfl, Nat.mul_one, Nat.add_zero] at hx42_0)
             have hf42_0 := hfr42 0
             (try simp only [show (k55).sz = 6 from rfl, Nat.mul_one, Nat.add_zero] at hf42_0)
             have hx42_1 := hcc42 1 _ rfl
             (try simp only [show (k55).sz = 6 from rfl, Nat.mul_one, Nat.add_zero] at hx42_1)
             have hf42_1 := hfr42 1
             (try simp only [show (k55).sz = 6 from rfl, Nat.mul_one, Nat.add_zero] at hf42_1)
             have hx42_2 := hcc42 2 _ rfl
             (try simp only [show (k55).sz = 6 from rfl, Nat.mul_one, Nat.add_zero] at hx42_2)
             have hf42_2 := hfr42 2
             (try simp only [show (k55).sz = 6 from rfl, Nat.mul_one, Nat.add_zero] at hf42_2)
             have hx42_3 := hcc42 3 _ rfl
             (try simp only [show (k55).sz = 6 from rfl, Nat.mul_one, Nat.add_zero] at hx42_3)
             have hf42_3 := hfr42 3
             (try simp only [show (k55).sz = 6 from rfl, Nat.mul_one, Nat.add_zero] at hf42_3)
             have hx42_4 := hcc42 4 _ rfl
             (try simp only [show (k55).sz = 6 from rfl, Nat.mul_one, Nat.add_zero] at hx42_4)
             have hf42_4 := hfr42 4
             (try simp only [show (k55).sz = 6 from rfl, Nat.mul_one, Nat.add_zero] at hf42_4)
             have hx42_5 := hcc42 5 _ rfl
             (try simp only [show (k55).sz = 6 from rfl, Nat.mul_one, Nat.add_zero] at hx42_5)
             have hf42_5 := hfr42 5
             (try simp only [show (k55).sz = 6 from rfl, Nat.mul_one, Nat.add_zero] at hf42_5)
             clear hcl42 hcc42 hfr42 hM42
             try go_wp2_with (first | ((with_reducible refine gate_store (t := 55) (p := 54) rfl ?_); refine store_event (t := 55) (p := 54) (v := ?vo_w43) (w1 := ((((((w40.setCell ⟨go38, (x7_14 : Int).toNat * 6, none⟩ (.int .i64 a1_0)).setCell ⟨go38, (x7_14 : Int).toNat * 6 + 1, none⟩ (.int .i64 a1_1)).setCell ⟨go38, (x7_14 : Int).toNat * 6 + 2, none⟩ (.int .i64 a1_2)).setCell ⟨go38, (x7_14 : Int).toNat * 6 + 3, none⟩ (.int .i64 a1_3)).setCell ⟨go38, (x7_14 : Int).toNat * 6 + 4, none⟩ (.int .i64 a1_4)).setCell ⟨go38, (x7_14 : Int).toNat * 6 + 5, none⟩ (.int .i64 a1_5))) ?hg ?ho ?hn ?hr ?_; (case ho => rfl); (case hg => rfl); (case hn => rfl); (case hr => first | (go_simp; done) | (go_simp; rfl)); intro w43 hw; have hg : w40.grownBy w43 (some go38) := (by rw [hw]; exact HP42.2); have hp_ : Kd.R k55 55 w43 w.heap.size (fun k_ => k_ ≠ gb199) (.slice (some ⟨go38, 0, none⟩) t200.length co38) y211 := (by rw [hw, Ny211.out]; exact HP42.1); clear HP42; replace BK199 := As_.mk (blk_grown (bo BK199) hg (Kd.R_away HO_6.out (fun _ hk => hk))); replace HO_6 := As_.mk (hp_); replace HB := As_.mk ((by rw [hw]; exact bS_ (bS_ (bS_ (bS_ (bS_ (bS_ (HB.out) GB38.out) GB38.out) GB38.out) GB38.out) GB38.out) GB38.out : Below w.heap.size w w43)); clear hg hw hp_))
             go_ret2
             exact ⟨_, sqe, by (with_reducible repeat (first | apply Kd.R_alloc | apply Kd.R_drewN | apply Kd.R_drew)); exact Kd.R_mono HO_6.out (fun _ hk => trivial), sqh⟩
            ·rw [if_neg c37] at H
             exact absurd H (by simp)
           ·replace c36 := Bool.eq_false_iff.mpr c36
            subst c36
            replace H := iF H
            simp only [Option.some.injEq, Prod.mk.injEq] at H
            obtain ⟨rfl, rfl⟩ := H
            try go_wp2
            replace HO_6 := As_.mk (Kd.R_drew HO_6.out)
            replace BK199 := As_.mk (blk_drew BK199.out)
            replace HB := As_.mk (bD_ HB.out)
            have p209 : 0 ≤ (x7_14 : Int) := of_decide_eq_true sqs
            have q209 : x7_14 < (l0.length : Int) := of_decide_eq_true sqs
            obtain ⟨ad209, e209, hx209_0, hx209_1, hx209_2, hx209_3, hx209_4, hx209_5⟩ := at_T55 HR0.out x7_14 p209 q209
            have hw209_5 := hx209_5; have hw209_4 := hx209_4; have hw209_3 := hx209_3; have hw209_2 := hx209_2; have hw209_1 := hx209_1; have hw209_0 := hx209_0
            cases e209
            replace hx209_0 := cl HB hx209_0; replace hx209_1 := cl HB hx209_1; replace hx209_2 := cl HB hx209_2; replace hx209_3 := cl HB hx209_3; replace hx209_4 := cl HB hx209_4; replace hx209_5 := cl HB hx209_5
            replace p209 := eq_true p209
            replace q209 := eq_true q209
            refine start_ (n := 6) (S := fun w' => w'.cell? ⟨gb199, 0, none⟩ = some (.int .i64 a1_0) ∧ w'.cell? ⟨gb199, 1, none⟩ = some (.int .i64 a1_1) ∧ w'.cell? ⟨gb199, 2, none⟩ = some (.int .i64 a1_2) ∧ w'.cell? ⟨gb199, 3, none⟩ = some (.int .i64 a1_3) ∧ w'.cell? ⟨gb199, 4, none⟩ = some (.int .i64 a1_4) ∧ w'.cell? ⟨gb199, 5, none⟩ = some (.int .i64 a1_5) ∧ w'.cell? (ad209.add ((x7_14).toNat * 6)) = some (.int .i64 ((rd_T55 l0 x7_14).f0)) ∧ w'.cell? ⟨(ad209.add ((x7_14).toNat * 6)).block, (ad209.add ((x7_14).toNat * 6)).off + 1, none⟩ = some (.int .i64 ((rd_T55 l0 x7_14).f1)) ∧ w'.cell? ⟨(ad209.add ((x7_14).toNat * 6)).block, (ad209.add ((x7_14).toNat * 6)).off + 2, none⟩ = some (.int .i64 ((rd_T55 l0 x7_14).f2)) ∧ w'.cell? ⟨(ad209.add ((x7_14).toNat * 6)).block, (ad209.add ((x7_14).toNat * 6)).off + 3, none⟩ = some (.int .i64 ((rd_T55 l0 x7_14).f3)) ∧ w'.cell? ⟨(ad209.add ((x7_14).toNat * 6)).block, (ad209.add ((x7_14).toNat * 6)).off + 4, none⟩ = some (.int .i64 ((rd_T55 l0 x7_14).f4)) ∧ w'.cell? ⟨(ad209.add ((x7_14).toNat * 6)).block, (ad209.add ((x7_14).toNat * 6)).off + 5, none⟩ = some (.int .i64 ((rd_T55 l0 x7_14).f5))) (ds := []) #[false, false, false, false, false, false] sqk rfl rfl (sa6 BK199.out ⟨(cl HB hw209_0), (cl HB hw209_1), (cl HB hw209_2), (cl HB hw209_3), (cl HB hw209_4), (cl HB hw209_5)⟩) (fun hHeld => ?_)
            generalize wc.drew = w44 at HO_6 BK199 HB hx209_0 hx209_1 hx209_2 hx209_3 hx209_4 hx209_5 hHeld ⊢
            refine pu 1 46 ?_; refine pu 2 47 ?_; refine pu 3 48 ?_; refine ta 0 45 ?_; refine ta 4 49 ?_
            refine on 5 (some 50) (fun K hK => ?_)
            refine goes_ Try.func111 sqk rfl #[.agg #[.int .i64 a1_0, .int .i64 a1_1, .int .i64 a1_2, .int .i64 a1_3, .int .i64 a1_4, .int .i64 a1_5], .agg #[.int .i64 ((rd_T55 l0 x7_14).f0), .int .i64 ((rd_T55 l0 x7_14).f1), .int .i64 ((rd_T55 l0 x7_14).f2), .int .i64 ((rd_T55 l0 x7_14).f3), .int .i64 ((rd_T55 l0 x7_14).f4), .int .i64 ((rd_T55 l0 x7_14).f5)]] (by rfl) rfl rfl sqm ?_
            with_reducible refine (impl_isLater.calls a1_0 a1_1 a1_2 a1_3 a1_4 a1_5 ((rd_T55 l0 x7_14).f0) ((rd_T55 l0 x7_14).f1) ((rd_T55 l0 x7_14).f2) ((rd_T55 l0 x7_14).f3) ((rd_T55 l0 x7_14).f4) ((rd_T55 l0 x7_14).f5) false _ A35.out).mono ?_
            rintro e w45 ⟨rfl, hb⟩
            refine ⟨_, rfl, ?_⟩
            replace HO_6 := As_.mk (Kd.R_below (sqq HO_6.out) hb)
            replace BK199 := As_.mk (blk_below (bo BK199) hb)
            replace HB := As_.mk (below_step sqh hb)
            (try clear hb)
            (try clear hb2)
            (try clear hk)
            (try clear hi)
            refine hK.out _ _ (sa6 BK199.out ⟨(cl HB hw209_0), (cl HB hw209_1), (cl HB hw209_2), (cl HB hw209_3), (cl HB hw209_4), (cl HB hw209_5)⟩) (fun hHeld => ?_)
            clear hK K; refine no 50 ?_
            refine dn ?_
            try go_wp2
            go_ret2
            exact ⟨_, sqe, by (with_reducible repeat (first | apply Kd.R_alloc | apply Kd.R_drewN | apply Kd.R_drew)); exact Kd.R_mono HO_6.out (fun _ hk => trivial), sqh⟩
          ·rw [if_neg c34] at H
           exact absurd H (by simp)
         ·rw [if_neg c33] at H
          exact absurd H (by simp)
        ·replace c32 := Bool.eq_false_iff.mpr c32
         subst c32
         replace H := iF H
         by_cases c46 : (l0.length : Int) = 30
         ·rw [if_pos c46] at H
          have c46b0 : ((l0.length : Int) == 30) = true := beq_iff_eq.mpr c46
          have c46b1 : ((l0.length : Int) != 30) = false := bne_eq_false_iff_eq.mpr c46
          clear c46
          simp only [Option.some.injEq, Prod.mk.injEq] at H
          obtain ⟨rfl, rfl⟩ := H
          go_wp2
          go_ret2
          exact ⟨_, sqe, by (with_reducible repeat (first | apply Kd.R_alloc | apply Kd.R_drewN | apply Kd.R_drew)); exact Kd.R_mono HO_6.out (fun _ hk => trivial), sqh⟩
         ·rw [if_neg c46] at H
          have c46b0 : ((l0.length : Int) == 30) = false := beq_eq_false_iff_ne.mpr c46
          have c46b1 : ((l0.length : Int) != 30) = true := bne_iff_ne.mpr c46
          obtain ⟨y212, hy212⟩ : ∃ y_ : List (S55), y_ = (([(⟨a1_0, a1_1, a1_2, a1_3, a1_4, a1_5⟩ : S55)] : List (S55))) := ⟨_, rfl⟩
          replace H : ((impl_Fact.f t200 x7_14 y212).bind fun t215 => (some (t215, true))) = some (r1, r2) := by first | (rw [hy212]; with_reducible exact H) | (have H2_ := (Option.bind_some _ _).symm.trans H; rw [hy212]; with_reducible exact H2_) | (have H2_ := (Option.bind_some _ _).symm.trans H; with_reducible exact H2_) | with_reducible exact H | (rw [hy212]; exact H) | exact H
          have Ny212 := As_.mk hy212
          clear hy212
          obtain ⟨t215, A47, H⟩ := bA H
          simp only [Option.some.injEq, Prod.mk.injEq] at H
          obtain ⟨rfl, rfl⟩ := H
          obtain ⟨hcz48_0, hcz48_1, hcz48_2, hcz48_3, hcz48_4, hcz48_5, hfz48_0, hfz48_1, hfz48_2, hfz48_3, hfz48_4, hfz48_5⟩ := sd6 BK199.out
          go_wp2_with (first | ((with_reducible refine gate_dst (N := 63) rfl ?_); refine Kd.R_lit k55 _ 55 ?hg (N := 63) ?hd (xs := ([(⟨a1_0, a1_1, a1_2, a1_3, a1_4, a1_5⟩ : S55)] : List (S55))) (inner := [.int .i64 a1_0, .int .i64 a1_1, .int .i64 a1_2, .int .i64 a1_3, .int .i64 a1_4, .int .i64 a1_5]) (ok := fun _ => True) (okp := fun _ => True) ?hr ?hp (fun _ hk => hk) trivial (Below.refl _ _) (Nat.le_refl _) (by simp) ?_; (case hd => rfl); (case hg => rfl); (case hr => first | (go_simp; done) | (go_simp; rfl)); (case hp => exact (Reps.c6 (show Kd.M k55 _ _ _ (⟨a1_0, a1_1, a1_2, a1_3, a1_4, a1_5⟩ : S55) [.int .i64 a1_0, .int .i64 a1_1, .int .i64 a1_2, .int .i64 a1_3, .int .i64 a1_4, .int .i64 a1_5] from (k55_mkM _ _ _ (⟨a1_0, a1_1, a1_2, a1_3, a1_4, a1_5⟩ : S55) )) (Reps.none _ _))); intro v213 w49 ho50 hb hg_ hnew_; clear hg_ hnew_; (first | rw [← Ny212.out] at ho50 | (simp only [Int.reduceToNat] at ho50; rw [← Ny212.out] at ho50)); have HO214 := As_.mk (Kd.R_lower (Kd.R_newB (Kd.R_new' ho50 (Kd.R_lt (sqq HO_6.out))) (bo BK199)) (below_size sqh)); replace HO_6 := As_.mk (Kd.R_elder' (sqq HO_6.out) (Kd.R_base ho50) hb); replace BK199 := As_.mk (blk_below (bo BK199) hb); replace HB := As_.mk (below_step sqh hb); clear hb ho50; obtain ⟨Ao51, co51, eo51⟩ := Kd.R_slice HO_6.out; subst eo51; obtain ⟨Ao52, co52, eo52⟩ := Kd.R_slice HO214.out; subst eo52) | ((with_reducible refine gate_callee (f := 112) rfl ?_); refine goesL_ (some 64) rfl rfl Try.func112 sqk rfl #[.slice Ao51 t200.length co51, .int .i64 x7_14, .slice Ao52 y212.length co52] rfl sqm ?_; (with_reducible refine (impl_Fact.calls (fun k_ => some k_ = (.slice Ao51 t200.length co51 : Value).ownBlock) (.slice Ao51 t200.length co51) t200 x7_14 (fun k_ => some k_ = (.slice Ao52 y212.length co52 : Value).ownBlock) (.slice Ao52 y212.length co52) y212 t215 w _ ?side1 ?side2 ?side3 ?side4 ?side5 A47.out).mono ?_); (case side1 => exact sqh); (case side2 => exact Kd.R_tight rfl HO_6.out); (case side3 => exact fun k_ e_ => (HO_6.out.1 k_ e_.symm).2); (case side4 => exact Kd.R_tight rfl HO214.out); (case side5 => exact fun k_ e_ => (HO214.out.1 k_ e_.symm).1.2); rintro e w53 ⟨v216, rfl, ho0, hb, hkp⟩; refine ⟨_, rfl, ?_⟩; have HO217 := As_.mk (Kd.R_mono (ok' := fun k_ => k_ ≠ gb199) ho0 (fun k_ hk_ => Or.elim hk_ (fun hs_ => Or.elim hs_ (fun hs_ => fun e_ => (Kd.R_away HO_6.out (fun _ hk => hk.1)) (by rw [← e_]; exact hs_)) (fun hs_ => fun e_ => (Kd.R_away HO214.out (fun _ hk => hk.2)) (by rw [← e_]; exact hs_))) (fun hn_ => (Kd.freshB (bo BK199) k_ hn_)))); replace BK199 := As_.mk (blk_kept (sqb BK199.out) hkp (fun hs_ => Or.elim hs_ (fun e_ => (fun e_ => (Kd.R_away HO_6.out (fun _ hk => hk.1)) e_) e_) (fun e_ => (fun e_ => (Kd.R_away HO214.out (fun _ hk => hk.2)) e_) e_))); replace HB := As_.mk (hb); clear HO214 HO_6; (try clear hb); (try clear hkp); (try clear ho0)))
          go_ret2
          exact ⟨_, sqe, by (with_reducible repeat (first | apply Kd.R_alloc | apply Kd.R_drewN | apply Kd.R_drew)); exact Kd.R_mono HO217.out (fun _ hk => trivial), sqh⟩

end Go.Proofs.Ytabpgiebhgkfhaa.XFnIssuers
