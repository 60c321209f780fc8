/- Written by this session's own program (wip/xprint, which runs over the kit's print): what the functions that the law reaches come to, each proved; and the law's row. Conditions: none. -/
import Derived.Test.YtabpgiebhgkfhaaUFnIssuersSq
import Derived.Test.YtabpgiebhgkfhaaUFnIssuersx0
import Derived.Test.YtabpgiebhgkfhaaUFnIssuersx11
import Derived.Test.YtabpgiebhgkfhaaUFnIssuersx18
import Derived.Test.YtabpgiebhgkfhaaUFnIssuersx19
import Derived.Test.YtabpgiebhgkfhaaUFnIssuersx20
namespace Go.Proofs.Ytabpgiebhgkfhaa.XFnIssuers
open Go.RowKit Go.Proofs.YtabpgiebhgkfhaaW.PrintWords Go.Proofs.YtabpgiebhgkfhaaW.PrintLast Go.Proofs.YtabpgiebhgkfhaaW.PrintMore Go.Proofs.YtabpgiebhgkfhaaSq
attribute [local go_sem] max2_int min2_int max_two min_two max_three min_three max_four min_four   -- for this text's walks alone
set_option linter.unusedVariables false
set_option linter.unusedSimpArgs false

/-! ### spec_PutFact: function 66 -/
mutual
def spec_PutFact.j0 : Nat → List (S55) → Bool → Int → Int → Int → Int → Int → Int → Option ((List (S55)) × Bool)
 | 0, _, _, _, _, _, _, _, _ => none
 | k + 1, x0, x17, x566000, x566001, x566002, x566003, x566004, x566005 => if x17 = true then ((spec_l7Copy.f x0).bind fun t568 => (some (t568, false))) else (spec_PutFact.l0 k x0 (([] : List (S55))) false 0 x566000 x566001 x566002 x566003 x566004 x566005)
def spec_PutFact.l0 : Nat → List (S55) → List (S55) → Bool → Int → Int → Int → Int → Int → Int → Int → Option ((List (S55)) × Bool)
 | 0, _, _, _, _, _, _, _, _, _, _ => none
 | k + 1, x0, x6, x7, x8, x566000, x566001, x566002, x566003, x566004, x566005 => if x8 < (x0.length : Int) then (if x7 = true then (spec_PutFact.j2 k x0 x6 x7 x8 false x566000 x566001 x566002 x566003 x566004 x566005) else (if 0 ≤ x8 then ((spec_FactBefore.f x566000 x566001 x566002 x566003 x566004 x566005 ((rd_T55 x0 x8).f0) ((rd_T55 x0 x8).f1) ((rd_T55 x0 x8).f2) ((rd_T55 x0 x8).f3) ((rd_T55 x0 x8).f4) ((rd_T55 x0 x8).f5)).bind fun t575 => (spec_PutFact.j2 k x0 x6 x7 x8 t575 x566000 x566001 x566002 x566003 x566004 x566005)) else (none))) else (if x7 = true then (if (x6.length : Int) > 30 then ((spec_l7Copy.f x0).bind fun t597 => (some (t597, false))) else (some (x6, true))) else (if x6.length < 2932031007402 then ((some (x6 ++ [(⟨x566000, x566001, x566002, x566003, x566004, x566005⟩ : S55)] : List (S55))).bind fun y600 => (if (y600.length : Int) > 30 then ((spec_l7Copy.f x0).bind fun t603 => (some (t603, false))) else (some (y600, true)))) else (none)))
def spec_PutFact.j2 : Nat → List (S55) → List (S55) → Bool → Int → Bool → Int → Int → Int → Int → Int → Int → Option ((List (S55)) × Bool)
 | 0, _, _, _, _, _, _, _, _, _, _, _ => none
 | k + 1, x0, x6, x7, x8, x36, x566000, x566001, x566002, x566003, x566004, x566005 => if x36 = true then (if x6.length < 2932031007402 then (spec_PutFact.j3 k x0 (x6 ++ [(⟨x566000, x566001, x566002, x566003, x566004, x566005⟩ : S55)]) true x8 x566000 x566001 x566002 x566003 x566004 x566005) else (none)) else (spec_PutFact.j3 k x0 x6 x7 x8 x566000 x566001 x566002 x566003 x566004 x566005)
def spec_PutFact.j3 : Nat → List (S55) → List (S55) → Bool → Int → Int → Int → Int → Int → Int → Int → Option ((List (S55)) × Bool)
 | 0, _, _, _, _, _, _, _, _, _, _ => none
 | k + 1, x0, x6, x7, x8, x566000, x566001, x566002, x566003, x566004, x566005 => if 0 ≤ x8 then (if x8 < (x0.length : Int) then ((spec_SameClaim.f x566000 x566001 x566002 x566003 x566004 x566005 ((rd_T55 x0 x8).f0) ((rd_T55 x0 x8).f1) ((rd_T55 x0 x8).f2) ((rd_T55 x0 x8).f3) ((rd_T55 x0 x8).f4) ((rd_T55 x0 x8).f5)).bind fun t581 => (if t581 = true then (if x566004 > ((rd_T55 x0 x8).f4) then (if x6.length < 2932031007402 then (spec_PutFact.l0 k x0 (x6 ++ [(⟨x566000, x566001, x566002, x566003, x566004, x566005⟩ : S55)]) true (wrap64 (x8 + 1)) x566000 x566001 x566002 x566003 x566004 x566005) else (none)) else (if x566004 = ((rd_T55 x0 x8).f4) then (if x566005 > ((rd_T55 x0 x8).f5) then (if x6.length < 2932031007402 then (spec_PutFact.l0 k x0 (x6 ++ [(⟨x566000, x566001, x566002, x566003, x566004, x566005⟩ : S55)]) true (wrap64 (x8 + 1)) x566000 x566001 x566002 x566003 x566004 x566005) else (none)) else (if x6.length < 2932031007402 then (spec_PutFact.l0 k x0 (x6 ++ [(⟨(rd_T55 x0 x8).f0, (rd_T55 x0 x8).f1, (rd_T55 x0 x8).f2, (rd_T55 x0 x8).f3, (rd_T55 x0 x8).f4, (rd_T55 x0 x8).f5⟩ : S55)]) true (wrap64 (x8 + 1)) x566000 x566001 x566002 x566003 x566004 x566005) else (none))) else (if x6.length < 2932031007402 then (spec_PutFact.l0 k x0 (x6 ++ [(⟨(rd_T55 x0 x8).f0, (rd_T55 x0 x8).f1, (rd_T55 x0 x8).f2, (rd_T55 x0 x8).f3, (rd_T55 x0 x8).f4, (rd_T55 x0 x8).f5⟩ : S55)]) true (wrap64 (x8 + 1)) x566000 x566001 x566002 x566003 x566004 x566005) else (none)))) else (if x6.length < 2932031007402 then (spec_PutFact.l0 k x0 (x6 ++ [(⟨(rd_T55 x0 x8).f0, (rd_T55 x0 x8).f1, (rd_T55 x0 x8).f2, (rd_T55 x0 x8).f3, (rd_T55 x0 x8).f4, (rd_T55 x0 x8).f5⟩ : S55)]) x7 (wrap64 (x8 + 1)) x566000 x566001 x566002 x566003 x566004 x566005) else (none)))) else (none)) else (none)
end
def spec_PutFact.f (k : Nat) (l0 : List (S55)) (a1_0 : Int) (a1_1 : Int) (a1_2 : Int) (a1_3 : Int) (a1_4 : Int) (a1_5 : Int) : Option ((List (S55)) × Bool) := (spec_IsStore.f k l0).bind fun t566 => (if t566 = true then ((spec_IsFact.f a1_0 a1_1 a1_2 a1_3 a1_4 a1_5).bind fun t567 => (spec_PutFact.j0 k l0 (!t567) a1_0 a1_1 a1_2 a1_3 a1_4 a1_5)) else (spec_PutFact.j0 k l0 true a1_0 a1_1 a1_2 a1_3 a1_4 a1_5))
def spec_PutFact.T8 : Bool × List (List Nat × List Nat) := (true, [([], []), ([0], [0]), ([1], [1]), ([2], [2]), ([2], [2]), ([2], [2]), ([4, 5, 2], [2, 4, 5]), ([6, 2], [2, 6]), ([3, 7, 2, 2], [2, 3, 7]), ([2, 8], [2, 8])])
def spec_PutFact.B8 : List Nat := [0, 1, 3, 7, 7, 7, 55, 119, 255, 511]
theorem spec_PutFact.tab8 : rtab .any (opsOf Try.f66 8) = spec_PutFact.T8 := by kernel_rfl
theorem spec_PutFact.bits8 : waitsOk spec_PutFact.T8.2 spec_PutFact.B8 = true := by kernel_rfl
theorem z66_0 {Q : Prop} (g : Q := by (with_reducible repeat (first | apply Kd.R_alloc | apply Kd.R_drewN | apply Kd.R_drew)); exact (Kd.R_mono (Kd.R_far (p := ⟨gb580, 5, none⟩) (Kd.R_far (p := ⟨gb580, 4, none⟩) (Kd.R_far (p := ⟨gb580, 3, none⟩) (Kd.R_far (p := ⟨gb580, 2, none⟩) (Kd.R_far (p := ⟨gb580, 1, none⟩) (Kd.R_far (p := ⟨gb580, 0, none⟩) (Kd.R_mono HO_6.out (fun k_ hk => (⟨hk, hk.2⟩ : _ ∧ k_ ≠ gb580))) (fun _ hk => hk.2) (.int .i64 ((rd_T55 l0 x8_2).f0))) (fun _ hk => hk.2) (.int .i64 ((rd_T55 l0 x8_2).f1))) (fun _ hk => hk.2) (.int .i64 ((rd_T55 l0 x8_2).f2))) (fun _ hk => hk.2) (.int .i64 ((rd_T55 l0 x8_2).f3))) (fun _ hk => hk.2) (.int .i64 ((rd_T55 l0 x8_2).f4))) (fun _ hk => hk.2) (.int .i64 ((rd_T55 l0 x8_2).f5))) (fun _ h_ => h_.1))) : Q := g
theorem z66_1 {Q : Prop} (g : Q := by (with_reducible repeat (first | apply Kd.R_alloc | apply Kd.R_drewN | apply Kd.R_drew)); exact Kd.R_mono (Kd.R_far (p := ⟨gb580, 5, none⟩) (Kd.R_far (p := ⟨gb580, 4, none⟩) (Kd.R_far (p := ⟨gb580, 3, none⟩) (Kd.R_far (p := ⟨gb580, 2, none⟩) (Kd.R_far (p := ⟨gb580, 1, none⟩) (Kd.R_far (p := ⟨gb580, 0, none⟩) (Kd.R_mono HO_6.out (fun k_ hk => (⟨hk, hk.2⟩ : _ ∧ k_ ≠ gb580))) (fun _ hk => hk.2) (.int .i64 a1_0)) (fun _ hk => hk.2) (.int .i64 a1_1)) (fun _ hk => hk.2) (.int .i64 a1_2)) (fun _ hk => hk.2) (.int .i64 a1_3)) (fun _ hk => hk.2) (.int .i64 a1_4)) (fun _ hk => hk.2) (.int .i64 a1_5)) (fun _ hk => ⟨hk.1.1, hk.1.2⟩)) : Q := g
theorem z66_2 {Q : Prop} (g : Q := by rw [hg]; exact (below_size sqh)) : Q := g
set_option maxHeartbeats 8000000 in
set_option maxRecDepth 100000 in
theorem spec_PutFact.calls (k : Nat) (A0 : Option Addr) (c0 : Nat) (l0 : List (S55)) (a1_0 : Int) (a1_1 : Int) (a1_2 : Int) (a1_3 : Int) (a1_4 : Int) (a1_5 : Int) (r1 : List (S55)) (r2 : Bool) (w : World) (hr0 : Kd.C k55 w A0 l0.length l0) (hc0 : l0.length ≤ c0) (h : spec_PutFact.f k l0 a1_0 a1_1 a1_2 a1_3 a1_4 a1_5 = some (r1, r2)) :
  Calls Try.prog 66 #[.slice A0 l0.length c0, .agg #[.int .i64 a1_0, .int .i64 a1_1, .int .i64 a1_2, .int .i64 a1_3, .int .i64 a1_4, .int .i64 a1_5]] w fun e w' => ∃ v0_ : Value, e = .returned (.tuple #[v0_, .bool r2]) ∧ Kd.R k55 55 w' w.heap.size (fun _ => True) v0_ r1 ∧ Below w.heap.size w w' := by
 have hu55 := Try.underlying55
 have HR0 := As_.mk hr0
 have HC0 := As_.mk hc0
 clear hr0 hc0
 have HB := As_.mk (Below.refl w.heap.size w)
 have H : ((spec_IsStore.f k l0).bind fun t566 => (if t566 = true then ((spec_IsFact.f a1_0 a1_1 a1_2 a1_3 a1_4 a1_5).bind fun t567 => (spec_PutFact.j0 k l0 (!t567) a1_0 a1_1 a1_2 a1_3 a1_4 a1_5)) else (spec_PutFact.j0 k l0 true a1_0 a1_1 a1_2 a1_3 a1_4 a1_5))) = some (r1, r2) := h
 clear h
 have HC3 := As_.mk H
 clear H
 go_enter Try.func66, Try.ntmps66
 go_upto_region 1 with (first | ((with_reducible refine gate_dst (N := 3) rfl ?_); refine bx (N := 3) (cs := #[.int .i64 a1_0, .int .i64 a1_1, .int .i64 a1_2, .int .i64 a1_3, .int .i64 a1_4, .int .i64 a1_5]) (t := 55) ?_; intro gb565 hg w4 hbox hb; have BK565 := As_.mk (hbox); have GW565 := As_.mk ((z66_2 : w.heap.size ≤ gb565)); have GE565 := As_.mk ((z66_2 : w.heap.size ≤ gb565)); replace HB := As_.mk (below_step sqh hb); clear hb hbox hg))
 (try simp only [Act.put, List.setIfInBounds_toArray, List.set_cons_zero, List.set_cons_succ])
 go_cut [17] (fun v17 wc => ∃ (kq : Nat) (x17_2 : Bool), v17 = .bool x17_2 ∧ As_ (spec_PutFact.j0 kq l0 x17_2 a1_0 a1_1 a1_2 a1_3 a1_4 a1_5 = some (r1, r2)) ∧ As_ (kq ≤ k) ∧ As_ (wc.heap[gb565]? = some (.cells #[.int .i64 a1_0, .int .i64 a1_1, .int .i64 a1_2, .int .i64 a1_3, .int .i64 a1_4, .int .i64 a1_5] 55 (0, 0))) ∧ As_ (Below w.heap.size w wc))
 case first =>
  have H := HC3.out
  clear HC3
  obtain ⟨t566, A5, H⟩ := bA H
  by_cases c6 : t566 = true
  ·subst c6
   replace H := iT H
   obtain ⟨t567, A7, H⟩ := bA H
   have H' := As_.mk H
   clear H
   go_wp2_with (first | ((with_reducible refine gate_callee (f := 107) rfl ?_); refine goesL_ (some 11) rfl rfl Try.func107 sqk rfl #[.slice A0 l0.length c0] rfl sqm ?_; (with_reducible refine (spec_IsStore.calls k _ _ l0 true _ ?side1 ?side2 A5.out).mono ?_); (case side1 => exact sqn (Kd.C_below HR0.out HB.out)); (case side2 => exact HC0.out); rintro e w8 ⟨rfl, hb⟩; refine ⟨_, rfl, ?_⟩; replace BK565 := As_.mk (blk_below (bo BK565) hb); replace HB := As_.mk (below_step sqh hb); (try clear hb); obtain ⟨hcz9_0, hcz9_1, hcz9_2, hcz9_3, hcz9_4, hcz9_5, hfz9_0, hfz9_1, hfz9_2, hfz9_3, hfz9_4, hfz9_5⟩ := sd6 BK565.out) | (go_at_call 79; (with_reducible refine (spec_IsFact.calls a1_0 a1_1 a1_2 a1_3 a1_4 a1_5 t567 _ A7.out).mono ?_); rintro e w10 ⟨rfl, hb⟩; replace BK565 := As_.mk (blk_below (bo BK565) hb); replace HB := As_.mk (below_step sqh hb); (try clear hb)))
   go_meet
   case rel => exact ⟨_, (!t567), sqr, H', ⟨sqo⟩, ⟨sqb BK565.out⟩, ⟨sqh⟩⟩
  ·replace c6 := Bool.eq_false_iff.mpr c6
   subst c6
   replace H := iF H
   have H' := As_.mk H
   clear H
   go_wp2_with (first | ((with_reducible refine gate_callee (f := 107) rfl ?_); refine goesL_ (some 11) rfl rfl Try.func107 sqk rfl #[.slice A0 l0.length c0] rfl sqm ?_; (with_reducible refine (spec_IsStore.calls k _ _ l0 false _ ?side1 ?side2 A5.out).mono ?_); (case side1 => exact sqn (Kd.C_below HR0.out HB.out)); (case side2 => exact HC0.out); rintro e w11 ⟨rfl, hb⟩; refine ⟨_, rfl, ?_⟩; replace BK565 := As_.mk (blk_below (bo BK565) hb); replace HB := As_.mk (below_step sqh hb); (try clear hb)))
   go_meet
   case rel => exact ⟨_, (true), sqr, H', ⟨sqo⟩, ⟨sqb BK565.out⟩, ⟨sqh⟩⟩
 case rest =>
  clear HC3; try clear c1; try clear p2; try clear c6; try clear c10; try clear hcz9_0; try clear hcz9_1; try clear hcz9_2; try clear hcz9_3; try clear hcz9_4; try clear hcz9_5; try clear hfz9_0; try clear hfz9_1; try clear hfz9_2; try clear hfz9_3; try clear hfz9_4; try clear hfz9_5
  obtain ⟨kq, x17_2, rfl, HA, HJ2, BK565, HB⟩ := hcut
  cases kq with
  | zero => exact absurd HA.out (by simp [spec_PutFact.j0])
  | succ kj2 =>
   have H := HA.out
   clear HA
   simp only [spec_PutFact.j0] at H
   by_cases c12 : x17_2 = true
   ·subst c12
    replace H := iT H
    obtain ⟨t568, A13, H⟩ := bA H
    simp only [Option.some.injEq, Prod.mk.injEq] at H
    obtain ⟨rfl, rfl⟩ := H
    go_wp2_with (first | ((with_reducible refine gate_callee (f := 65) rfl ?_); refine goesL_ (some 19) rfl rfl Try.func65 sqk rfl #[.slice A0 l0.length c0] rfl sqm ?_; (with_reducible refine (spec_l7Copy.calls _ _ l0 t568 _ ?side1 ?side2 A13.out).mono ?_); (case side1 => exact sqn (Kd.C_below HR0.out HB.out)); (case side2 => exact HC0.out); rintro e w14 ⟨v569, rfl, ho0, hb⟩; refine ⟨_, rfl, ?_⟩; have HO570 := As_.mk (Kd.R_lower (Kd.R_newB ho0 (bo BK565)) (below_size sqh)); replace BK565 := As_.mk (blk_below (bo BK565) hb); replace HB := As_.mk (below_step sqh hb); (try clear hb); (try clear ho0)))
    go_ret2
    exact ⟨_, sqe, by (with_reducible repeat (first | apply Kd.R_alloc | apply Kd.R_drewN | apply Kd.R_drew)); exact Kd.R_mono HO570.out (fun _ hk => trivial), sqh⟩
   ·replace c12 := Bool.eq_false_iff.mpr c12
    subst c12
    replace H := iF H
    obtain ⟨y571, hy571⟩ : ∃ y_ : List (S55), y_ = (([] : List (S55))) := ⟨_, rfl⟩
    replace H : (spec_PutFact.l0 kj2 l0 y571 false 0 a1_0 a1_1 a1_2 a1_3 a1_4 a1_5) = some (r1, r2) := by first | (rw [hy571]; with_reducible exact H) | (have H2_ := (Option.bind_some _ _).symm.trans H; rw [hy571]; with_reducible exact H2_) | (have H2_ := (Option.bind_some _ _).symm.trans H; with_reducible exact H2_) | with_reducible exact H | (rw [hy571]; exact H) | exact H
    have Ny571 := As_.mk hy571
    clear hy571
    have H' := As_.mk H
    clear H
    go_wp2_with (first | ((with_reducible refine gate_dst (N := 20) rfl ?_); refine Kd.R_lit k55 _ 55 ?hg (N := 20) ?hd (xs := ([] : List (S55))) (inner := []) (ok := fun _ => True) (okp := fun _ => True) ?hr ?hp (fun _ hk => hk) trivial (Below.refl _ _) (Nat.le_refl _) (by simp) ?_; (case hd => rfl); (case hg => rfl); (case hr => first | (go_simp; done) | (go_simp; rfl)); (case hp => exact (Reps.none _ _)); intro v572 w15 ho16 hb hg_ hnew_; clear hg_ hnew_; (first | rw [← Ny571.out] at ho16 | (simp only [Int.reduceToNat] at ho16; rw [← Ny571.out] at ho16)); have HO573 := As_.mk (Kd.R_lower (Kd.R_newB ho16 (bo BK565)) (below_size sqh)); replace BK565 := As_.mk (blk_below (bo BK565) hb); replace HB := As_.mk (below_step sqh hb); clear hb ho16))
    go_loopg [6, 7, 8] kj2 (fun kq v6 v7 v8 w' => ∃ (x6_2 : List (S55)) (x7_2 : Bool) (x8_2 : Int), v7 = .bool x7_2 ∧ v8 = .int .i64 x8_2 ∧ As_ (spec_PutFact.l0 kq l0 x6_2 x7_2 x8_2 a1_0 a1_1 a1_2 a1_3 a1_4 a1_5 = some (r1, r2)) ∧ As_ (kq ≤ kj2) ∧ As_ (Kd.R k55 55 w' w.heap.size (fun k_ => k_ ≠ gb565) v6 x6_2) ∧ As_ (w'.heap[gb565]? = some (.cells #[.int .i64 a1_0, .int .i64 a1_1, .int .i64 a1_2, .int .i64 a1_3, .int .i64 a1_4, .int .i64 a1_5] 55 (0, 0))) ∧ As_ (Below w.heap.size w w'))
    case atStart => exact ⟨(y571), (false), (0), sqr, sqr, H', ⟨Nat.le_refl _⟩, ⟨by (with_reducible repeat (first | apply Kd.R_alloc | apply Kd.R_drewN | apply Kd.R_drew)); exact Kd.R_mono HO573.out (fun _ hk => hk.2)⟩, ⟨sqb BK565.out⟩, ⟨sqh⟩⟩
    case round =>
     clear H'; try clear c1; try clear p2; try clear c6; try clear c10; try clear c12; try clear hcz9_0; try clear hcz9_1; try clear hcz9_2; try clear hcz9_3; try clear hcz9_4; try clear hcz9_5; try clear hfz9_0; try clear hfz9_1; try clear hfz9_2; try clear hfz9_3; try clear hfz9_4; try clear hfz9_5; try clear p2
     obtain ⟨x6_2, x7_2, x8_2, rfl, rfl, HA, HK2, HO_6, BK565, HB⟩ := hrel
     cases gk with
     | zero => exact absurd HA.out (by simp [spec_PutFact.l0])
     | succ k2 =>
      have H := HA.out
      clear HA
      simp only [spec_PutFact.l0] at H
      by_cases c17 : x8_2 < (l0.length : Int)
      ·rw [if_pos c17] at H
       have c17b0 : decide (x8_2 < (l0.length : Int)) = true := decide_eq_true c17
       clear c17
       have HC18 := As_.mk H
       clear H
       go_upto_region 8 with (fail)
       go_cut [36] (fun v36 wc => ∃ (kq : Nat) (x36_17 : Bool), v36 = .bool x36_17 ∧ As_ (spec_PutFact.j2 kq l0 x6_2 x7_2 x8_2 x36_17 a1_0 a1_1 a1_2 a1_3 a1_4 a1_5 = some (r1, r2)) ∧ As_ (kq ≤ k2) ∧ As_ (Kd.R k55 55 wc w.heap.size (fun k_ => k_ ≠ gb565) u6 x6_2) ∧ As_ (wc.heap[gb565]? = some (.cells #[.int .i64 a1_0, .int .i64 a1_1, .int .i64 a1_2, .int .i64 a1_3, .int .i64 a1_4, .int .i64 a1_5] 55 (0, 0))) ∧ As_ (Below w.heap.size w wc))
       case first =>
        have H := HC18.out
        clear HC18
        by_cases c19 : x7_2 = true
        ·subst c19
         replace H := iT H
         have H' := As_.mk H
         clear H
         try go_wp2
         replace HO_6 := As_.mk (Kd.R_drew HO_6.out)
         replace BK565 := As_.mk (blk_drew BK565.out)
         replace HB := As_.mk (bD_ HB.out)
         refine start_ (n := 10) (S := fun w' => True) (ds := []) #[false, false, false, false, false, false, false, false, false, false] sqk rfl rfl trivial (fun hHeld => ?_); refine with_tabW spec_PutFact.tab8 spec_PutFact.bits8 (fun HT_ HW_ => ?_)
         generalize wr.drew = w20 at HO_6 BK565 HB hHeld ⊢
         refine pu 0 27 ?_; refine pu 1 28 ?_; refine pu 2 29 ?_
         refine pure_ (i := 3) (N := some 30) (v := undef) (a' := ?_) #[true, true, true, true, false, false, false, false, false, false] rfl rfl (any_of HT_.out sqk) (fun _ _ _ h => h) (Or.inr ⟨by rfl, rfl⟩) ?_ ?_
         rotate_left
         ·simp only [Act.put, List.setIfInBounds_toArray, List.set_cons_zero, List.set_cons_succ, i64_w, i32_w]
          rfl
         refine pure_ (i := 4) (N := some 31) (v := undef) (a' := ?_) #[true, true, true, true, true, false, false, false, false, false] rfl rfl (any_of HT_.out sqk) (fun _ _ _ h => h) (Or.inr ⟨by rfl, rfl⟩) ?_ ?_
         rotate_left
         ·simp only [Act.put, List.setIfInBounds_toArray, List.set_cons_zero, List.set_cons_succ, i64_w, i32_w]
          rfl
         refine pure_ (i := 5) (N := some 32) (v := undef) (a' := ?_) #[true, true, true, true, true, true, false, false, false, false] rfl rfl (any_of HT_.out sqk) (fun _ _ _ h => h) (Or.inr ⟨by rfl, rfl⟩) ?_ ?_
         rotate_left
         ·simp only [Act.put, List.setIfInBounds_toArray, List.set_cons_zero, List.set_cons_succ, i64_w, i32_w]
          rfl
         refine pure_ (i := 6) (N := some 33) (v := undef) (a' := ?_) #[true, true, true, true, true, true, true, false, false, false] rfl rfl (any_of HT_.out sqk) (fun _ _ _ h => h) (Or.inr ⟨by rfl, rfl⟩) ?_ ?_
         rotate_left
         ·simp only [Act.put, List.setIfInBounds_toArray, List.set_cons_zero, List.set_cons_succ, i64_w, i32_w]
          rfl
         refine pure_ (i := 7) (N := some 34) (v := undef) (a' := ?_) #[true, true, true, true, true, true, true, true, false, false] rfl rfl (any_of HT_.out sqk) (fun _ _ _ h => h) (Or.inr ⟨by rfl, rfl⟩) ?_ ?_
         rotate_left
         ·simp only [Act.put, List.setIfInBounds_toArray, List.set_cons_zero, List.set_cons_succ, i64_w, i32_w]
          rfl
         refine pure_ (i := 8) (N := some 35) (v := undef) (a' := ?_) #[true, true, true, true, true, true, true, true, true, false] rfl rfl (any_of HT_.out sqk) (fun _ _ _ h => h) (Or.inr ⟨by rfl, rfl⟩) ?_ ?_
         rotate_left
         ·simp only [Act.put, List.setIfInBounds_toArray, List.set_cons_zero, List.set_cons_succ, i64_w, i32_w]
          rfl
         refine pu 9 36 ?_
         refine dn ?_
         try go_wp2
         go_meet
         case rel => exact ⟨_, (false), sqr, H', ⟨by have := HJ2.out; have := HK2.out; first | omega | exact Nat.le_refl _⟩, ⟨by (with_reducible repeat (first | apply Kd.R_alloc | apply Kd.R_drewN | apply Kd.R_drew)); exact HO_6.out⟩, ⟨sqb BK565.out⟩, ⟨sqh⟩⟩
        ·replace c19 := Bool.eq_false_iff.mpr c19
         subst c19
         replace H := iF H
         by_cases c21 : 0 ≤ x8_2
         ·rw [if_pos c21] at H
          have c21b0 : decide (0 ≤ x8_2) = true := decide_eq_true c21
          clear c21
          (first | rw [c21b0] | (simp only [i64_w, i32_w]; rw [c21b0]) | skip)
          obtain ⟨t575, A22, H⟩ := bA H
          have H' := As_.mk H
          clear H
          try go_wp2
          replace HO_6 := As_.mk (Kd.R_drew HO_6.out)
          replace BK565 := As_.mk (blk_drew BK565.out)
          replace HB := As_.mk (bD_ HB.out)
          have p574 : 0 ≤ (x8_2 : Int) := of_decide_eq_true sqs
          have q574 : x8_2 < (l0.length : Int) := of_decide_eq_true sqs
          obtain ⟨ad574, e574, hx574_0, hx574_1, hx574_2, hx574_3, hx574_4, hx574_5⟩ := at_T55 HR0.out x8_2 p574 q574
          have hw574_5 := hx574_5; have hw574_4 := hx574_4; have hw574_3 := hx574_3; have hw574_2 := hx574_2; have hw574_1 := hx574_1; have hw574_0 := hx574_0
          cases e574
          replace hx574_0 := cl HB hx574_0; replace hx574_1 := cl HB hx574_1; replace hx574_2 := cl HB hx574_2; replace hx574_3 := cl HB hx574_3; replace hx574_4 := cl HB hx574_4; replace hx574_5 := cl HB hx574_5
          replace p574 := eq_true p574
          replace q574 := eq_true q574
          refine start_ (n := 10) (S := fun w' => w'.cell? ⟨gb565, 0, none⟩ = some (.int .i64 a1_0) ∧ w'.cell? ⟨gb565, 1, none⟩ = some (.int .i64 a1_1) ∧ w'.cell? ⟨gb565, 2, none⟩ = some (.int .i64 a1_2) ∧ w'.cell? ⟨gb565, 3, none⟩ = some (.int .i64 a1_3) ∧ w'.cell? ⟨gb565, 4, none⟩ = some (.int .i64 a1_4) ∧ w'.cell? ⟨gb565, 5, none⟩ = some (.int .i64 a1_5) ∧ w'.cell? (ad574.add ((x8_2).toNat * 6)) = some (.int .i64 ((rd_T55 l0 x8_2).f0)) ∧ w'.cell? ⟨(ad574.add ((x8_2).toNat * 6)).block, (ad574.add ((x8_2).toNat * 6)).off + 1, none⟩ = some (.int .i64 ((rd_T55 l0 x8_2).f1)) ∧ w'.cell? ⟨(ad574.add ((x8_2).toNat * 6)).block, (ad574.add ((x8_2).toNat * 6)).off + 2, none⟩ = some (.int .i64 ((rd_T55 l0 x8_2).f2)) ∧ w'.cell? ⟨(ad574.add ((x8_2).toNat * 6)).block, (ad574.add ((x8_2).toNat * 6)).off + 3, none⟩ = some (.int .i64 ((rd_T55 l0 x8_2).f3)) ∧ w'.cell? ⟨(ad574.add ((x8_2).toNat * 6)).block, (ad574.add ((x8_2).toNat * 6)).off + 4, none⟩ = some (.int .i64 ((rd_T55 l0 x8_2).f4)) ∧ w'.cell? ⟨(ad574.add ((x8_2).toNat * 6)).block, (ad574.add ((x8_2).toNat * 6)).off + 5, none⟩ = some (.int .i64 ((rd_T55 l0 x8_2).f5))) (ds := []) #[false, false, false, false, false, false, false, false, false, false] sqk rfl rfl (sa6 BK565.out ⟨(cl HB hw574_0), (cl HB hw574_1), (cl HB hw574_2), (cl HB hw574_3), (cl HB hw574_4), (cl HB hw574_5)⟩) (fun hHeld => ?_); refine with_tabW spec_PutFact.tab8 spec_PutFact.bits8 (fun HT_ HW_ => ?_)
          generalize wr.drew = w23 at HO_6 BK565 HB hx574_0 hx574_1 hx574_2 hx574_3 hx574_4 hx574_5 hHeld ⊢
          refine pu 0 27 ?_; refine pu 1 28 ?_; refine pu 2 29 ?_; refine pu 4 31 ?_; refine pu 5 32 ?_; refine pu 6 33 ?_; refine ta 3 30 ?_; refine ta 7 34 ?_
          refine on 8 (some 35) (fun K hK => ?_)
          refine goes_ Try.func108 sqk rfl #[.agg #[.int .i64 a1_0, .int .i64 a1_1, .int .i64 a1_2, .int .i64 a1_3, .int .i64 a1_4, .int .i64 a1_5], .agg #[.int .i64 ((rd_T55 l0 x8_2).f0), .int .i64 ((rd_T55 l0 x8_2).f1), .int .i64 ((rd_T55 l0 x8_2).f2), .int .i64 ((rd_T55 l0 x8_2).f3), .int .i64 ((rd_T55 l0 x8_2).f4), .int .i64 ((rd_T55 l0 x8_2).f5)]] (by rfl) rfl rfl sqm ?_
          with_reducible refine (spec_FactBefore.calls a1_0 a1_1 a1_2 a1_3 a1_4 a1_5 ((rd_T55 l0 x8_2).f0) ((rd_T55 l0 x8_2).f1) ((rd_T55 l0 x8_2).f2) ((rd_T55 l0 x8_2).f3) ((rd_T55 l0 x8_2).f4) ((rd_T55 l0 x8_2).f5) t575 _ A22.out).mono ?_
          rintro e w24 ⟨rfl, hb⟩
          refine ⟨_, rfl, ?_⟩
          replace HO_6 := As_.mk (Kd.R_below (sqq HO_6.out) hb)
          replace BK565 := As_.mk (blk_below (bo BK565) hb)
          replace HB := As_.mk (below_step sqh hb)
          (try clear hb)
          (try clear hb2)
          (try clear hk)
          (try clear hi)
          refine hK.out _ _ (sa6 BK565.out ⟨(cl HB hw574_0), (cl HB hw574_1), (cl HB hw574_2), (cl HB hw574_3), (cl HB hw574_4), (cl HB hw574_5)⟩) (fun hHeld => ?_)
          clear hK K; refine no 35 ?_; refine pu 9 36 ?_
          refine dn ?_
          try go_wp2
          go_meet
          case rel => exact ⟨_, (t575), sqr, H', ⟨by have := HJ2.out; have := HK2.out; first | omega | exact Nat.le_refl _⟩, ⟨by (with_reducible repeat (first | apply Kd.R_alloc | apply Kd.R_drewN | apply Kd.R_drew)); exact HO_6.out⟩, ⟨sqb BK565.out⟩, ⟨sqh⟩⟩
         ·rw [if_neg c21] at H
          exact absurd H (by simp)
       case rest =>
        clear HC18; try clear c1; try clear c2; try clear p2; try clear p5; try clear q5; try clear hx5; try clear c6; try clear c10; try clear c12; try clear c17; try clear c17b0; try clear c19; try clear c21; try clear c21b0; try clear hcz9_0; try clear hcz9_1; try clear hcz9_2; try clear hcz9_3; try clear hcz9_4; try clear hcz9_5; try clear hfz9_0; try clear hfz9_1; try clear hfz9_2; try clear hfz9_3; try clear hfz9_4; try clear hfz9_5; try clear hx574_0; try clear hx574_1; try clear hx574_2; try clear hx574_3; try clear hx574_4; try clear hx574_5; try clear p2; try clear p574; try clear q574
        obtain ⟨kq, x36_17, rfl, HA, HJ17, HO_6, BK565, HB⟩ := hcut
        cases kq with
        | zero => exact absurd HA.out (by simp [spec_PutFact.j2])
        | succ kj17 =>
         have H := HA.out
         clear HA
         simp only [spec_PutFact.j2] at H
         have HC25 := As_.mk H
         clear H
         go_upto_if 36 with (fail)
         go_cut [6, 7] (fun v6 v7 wc => ∃ (kq : Nat) (x6_24 : List (S55)) (x7_24 : Bool), v7 = .bool x7_24 ∧ As_ (spec_PutFact.j3 kq l0 x6_24 x7_24 x8_2 a1_0 a1_1 a1_2 a1_3 a1_4 a1_5 = some (r1, r2)) ∧ As_ (kq ≤ kj17) ∧ As_ (Kd.R k55 55 wc w.heap.size (fun k_ => k_ ≠ gb565) v6 x6_24) ∧ As_ (wc.heap[gb565]? = some (.cells #[.int .i64 a1_0, .int .i64 a1_1, .int .i64 a1_2, .int .i64 a1_3, .int .i64 a1_4, .int .i64 a1_5] 55 (0, 0))) ∧ As_ (Below w.heap.size w wc))
         case first =>
          have H := HC25.out
          clear HC25
          by_cases c26 : x36_17 = true
          ·subst c26
           replace H := iT H
           by_cases c27 : x6_2.length < 2932031007402
           ·rw [if_pos c27] at H
            have LMc27 := As_.mk c27
            clear c27
            obtain ⟨y576, hy576⟩ : ∃ y_ : List (S55), y_ = (x6_2 ++ [(⟨a1_0, a1_1, a1_2, a1_3, a1_4, a1_5⟩ : S55)]) := ⟨_, rfl⟩
            replace H : (spec_PutFact.j3 kj17 l0 y576 true x8_2 a1_0 a1_1 a1_2 a1_3 a1_4 a1_5) = some (r1, r2) := by first | (rw [hy576]; with_reducible exact H) | (have H2_ := (Option.bind_some _ _).symm.trans H; rw [hy576]; with_reducible exact H2_) | (have H2_ := (Option.bind_some _ _).symm.trans H; with_reducible exact H2_) | with_reducible exact H | (rw [hy576]; exact H) | exact H
            have Ny576 := As_.mk hy576
            clear hy576
            have H' := As_.mk H
            clear H
            obtain ⟨hcz28_0, hcz28_1, hcz28_2, hcz28_3, hcz28_4, hcz28_5, hfz28_0, hfz28_1, hfz28_2, hfz28_3, hfz28_4, hfz28_5⟩ := sd6 BK565.out
            go_wp2_with (first | ((with_reducible refine gate_builtin (b := .append) (xs := #[.tmp 37, .tmp 39]) rfl ?_); at_builtin; refine Kd.R_append k55 (w0 := w) w.heap.size rfl (.tmp 37) (.tmp 39) 28 55 (.agg #[(.int .i64 0), (.int .i64 0), (.int .i64 0), (.int .i64 0), (.int .i64 0), (.int .i64 0)]) 48 rfl Try.underlying28 info55 rfl (by decide) (by omega) u6 x6_2 (⟨a1_0, a1_1, a1_2, a1_3, a1_4, a1_5⟩ : S55) [.int .i64 a1_0, .int .i64 a1_1, .int .i64 a1_2, .int .i64 a1_3, .int .i64 a1_4, .int .i64 a1_5] (fun k_ => k_ ≠ gb565) (fun _ => False) rfl rfl ?aP (fun _ hk => hk.elim) ?aF ?aO ?aB ?aS ?aL ?_; (case aP => exact k55_mkM _ _ _ (⟨a1_0, a1_1, a1_2, a1_3, a1_4, a1_5⟩ : S55)); (case aB => exact sqh); (case aF => exact (fun k_ hk => Kd.freshB (bo BK565) k_ hk)); (case aO => exact (sqq HO_6.out)); (case aS => exact (below_size sqh)); (case aL => have := LMc27.out; omega); intro v577 w29 ho hb hg hat; rw [← Ny576.out] at ho; replace BK565 := As_.mk (blk_grown (bo BK565) hg (Kd.R_away HO_6.out (fun _ hk => hk))); replace HB := As_.mk (hb); have HO578 := As_.mk (ho); clear HO_6; clear ho hb hg hat))
            go_meet
            case rel => exact ⟨_, (y576), (true), sqr, H', ⟨by have := HJ2.out; have := HK2.out; have := HJ17.out; first | omega | exact Nat.le_refl _⟩, ⟨by (with_reducible repeat (first | apply Kd.R_alloc | apply Kd.R_drewN | apply Kd.R_drew)); exact HO578.out⟩, ⟨sqb BK565.out⟩, ⟨sqh⟩⟩
           ·rw [if_neg c27] at H
            exact absurd H (by simp)
          ·replace c26 := Bool.eq_false_iff.mpr c26
           subst c26
           replace H := iF H
           have H' := As_.mk H
           clear H
           go_wp2
           go_meet
           case rel => exact ⟨_, (x6_2), (x7_2), sqr, H', ⟨by have := HJ2.out; have := HK2.out; have := HJ17.out; first | omega | exact Nat.le_refl _⟩, ⟨by (with_reducible repeat (first | apply Kd.R_alloc | apply Kd.R_drewN | apply Kd.R_drew)); exact HO_6.out⟩, ⟨sqb BK565.out⟩, ⟨sqh⟩⟩
         case rest =>
          clear HC25; try clear c1; try clear c2; try clear p2; try clear p5; try clear q5; try clear hx5; try clear c6; try clear c10; try clear c12; try clear c17; try clear c17b0; try clear c19; try clear c21; try clear c21b0; try clear c26; try clear c27; try clear hcz28_0; try clear hcz28_1; try clear hcz28_2; try clear hcz28_3; try clear hcz28_4; try clear hcz28_5; try clear hcz9_0; try clear hcz9_1; try clear hcz9_2; try clear hcz9_3; try clear hcz9_4; try clear hcz9_5; try clear hfz28_0; try clear hfz28_1; try clear hfz28_2; try clear hfz28_3; try clear hfz28_4; try clear hfz28_5; try clear hfz9_0; try clear hfz9_1; try clear hfz9_2; try clear hfz9_3; try clear hfz9_4; try clear hfz9_5; try clear hx574_0; try clear hx574_1; try clear hx574_2; try clear hx574_3; try clear hx574_4; try clear hx574_5; try clear p2; try clear p5; try clear p574; try clear q5; try clear q574
          obtain ⟨kq, x6_24, x7_24, rfl, HA, HJ24, HO_6, BK565, HB⟩ := hcut
          cases kq with
          | zero => exact absurd HA.out (by simp [spec_PutFact.j3])
          | succ kj24 =>
           have H := HA.out
           clear HA
           simp only [spec_PutFact.j3] at H
           by_cases c30 : 0 ≤ x8_2
           ·rw [if_pos c30] at H
            have c30b0 : decide (0 ≤ x8_2) = true := decide_eq_true c30
            clear c30
            by_cases c31 : x8_2 < (l0.length : Int)
            ·rw [if_pos c31] at H
             have c31b0 : decide (x8_2 < (l0.length : Int)) = true := decide_eq_true c31
             clear c31
             obtain ⟨t581, A32, H⟩ := bA H
             by_cases c33 : t581 = true
             ·subst c33
              replace H := iT H
              by_cases c34 : a1_4 > ((rd_T55 l0 x8_2).f4)
              ·rw [if_pos c34] at H
               have c34b0 : decide (((rd_T55 l0 x8_2).f4) < a1_4) = true := decide_eq_true c34
               clear c34
               by_cases c35 : x6_24.length < 2932031007402
               ·rw [if_pos c35] at H
                have LMc35 := As_.mk c35
                clear c35
                obtain ⟨y582, hy582⟩ : ∃ y_ : List (S55), y_ = (x6_24 ++ [(⟨a1_0, a1_1, a1_2, a1_3, a1_4, a1_5⟩ : S55)]) := ⟨_, rfl⟩
                replace H : (spec_PutFact.l0 kj24 l0 y582 true (wrap64 (x8_2 + 1)) a1_0 a1_1 a1_2 a1_3 a1_4 a1_5) = some (r1, r2) := by first | (rw [hy582]; with_reducible exact H) | (have H2_ := (Option.bind_some _ _).symm.trans H; rw [hy582]; with_reducible exact H2_) | (have H2_ := (Option.bind_some _ _).symm.trans H; with_reducible exact H2_) | with_reducible exact H | (rw [hy582]; exact H) | exact H
                have Ny582 := As_.mk hy582
                clear hy582
                have H' := As_.mk H
                clear H
                have p579 : 0 ≤ (x8_2 : Int) := of_decide_eq_true sqs
                have q579 : x8_2 < (l0.length : Int) := of_decide_eq_true sqs
                obtain ⟨ad579, e579, hx579_0, hx579_1, hx579_2, hx579_3, hx579_4, hx579_5⟩ := at_T55 HR0.out x8_2 p579 q579
                cases e579
                replace hx579_0 := cl HB hx579_0; replace hx579_1 := cl HB hx579_1; replace hx579_2 := cl HB hx579_2; replace hx579_3 := cl HB hx579_3; replace hx579_4 := cl HB hx579_4; replace hx579_5 := cl HB hx579_5
                replace p579 := eq_true p579
                replace q579 := eq_true q579
                go_wp2_with (first | ((with_reducible refine gate_dst (N := 9) rfl ?_); refine bx (N := 9) (cs := #[.int .i64 0, .int .i64 0, .int .i64 0, .int .i64 0, .int .i64 0, .int .i64 0]) (t := 55) ?_; intro gb580 hg w36 hbox hb; replace HO_6 := As_.mk (Kd.R_below (Kd.R_elderB (sqq HO_6.out) gb580 (Nat.le_of_eq hg.symm)) hb); have BK580 := As_.mk (hbox); have GW580 := As_.mk ((z66_2 : w.heap.size ≤ gb580)); have GE580 := As_.mk ((z66_2 : w.heap.size ≤ gb580)); replace HB := As_.mk (below_step sqh hb); have NB565_580 := As_.mk ((by rw [hg]; exact Nat.ne_of_lt (blk_lt (bo BK565)) : gb565 ≠ gb580)); have NB580_565 := As_.mk ((by rw [hg]; exact Nat.ne_of_gt (blk_lt (bo BK565)) : gb580 ≠ gb565)); replace BK565 := As_.mk (blk_below (bo BK565) hb); clear hb hbox hg; have hnb37 := NB580_565.out; have hnc37 := NB565_580.out; obtain ⟨hcz38_0, hcz38_1, hcz38_2, hcz38_3, hcz38_4, hcz38_5, hfz38_0, hfz38_1, hfz38_2, hfz38_3, hfz38_4, hfz38_5⟩ := sd6 BK580.out; obtain ⟨hcz39_0, hcz39_1, hcz39_2, hcz39_3, hcz39_4, hcz39_5, hfz39_0, hfz39_1, hfz39_2, hfz39_3, hfz39_4, hfz39_5⟩ := sd6 BK565.out) | ((with_reducible refine gate_callee (f := 109) rfl ?_); refine goesL_ (some 47) rfl rfl Try.func109 sqk rfl #[.agg #[.int .i64 a1_0, .int .i64 a1_1, .int .i64 a1_2, .int .i64 a1_3, .int .i64 a1_4, .int .i64 a1_5], .agg #[.int .i64 ((rd_T55 l0 x8_2).f0), .int .i64 ((rd_T55 l0 x8_2).f1), .int .i64 ((rd_T55 l0 x8_2).f2), .int .i64 ((rd_T55 l0 x8_2).f3), .int .i64 ((rd_T55 l0 x8_2).f4), .int .i64 ((rd_T55 l0 x8_2).f5)]] rfl sqm ?_; (with_reducible refine (spec_SameClaim.calls a1_0 a1_1 a1_2 a1_3 a1_4 a1_5 ((rd_T55 l0 x8_2).f0) ((rd_T55 l0 x8_2).f1) ((rd_T55 l0 x8_2).f2) ((rd_T55 l0 x8_2).f3) ((rd_T55 l0 x8_2).f4) ((rd_T55 l0 x8_2).f5) true _ A32.out).mono ?_); rintro e w40 ⟨rfl, hb⟩; refine ⟨_, rfl, ?_⟩; replace HO_6 := As_.mk (Kd.R_below z66_0 hb); replace BK565 := As_.mk (blk_below (g := gb565) (o := .cells #[.int .i64 a1_0, .int .i64 a1_1, .int .i64 a1_2, .int .i64 a1_3, .int .i64 a1_4, .int .i64 a1_5] 55 (0, 0)) (bp BK565) hb); replace BK580 := As_.mk (blk_below (g := gb580) (o := .cells #[.int .i64 ((rd_T55 l0 x8_2).f0), .int .i64 ((rd_T55 l0 x8_2).f1), .int .i64 ((rd_T55 l0 x8_2).f2), .int .i64 ((rd_T55 l0 x8_2).f3), .int .i64 ((rd_T55 l0 x8_2).f4), .int .i64 ((rd_T55 l0 x8_2).f5)] 55 (0, 0)) (bp BK580) hb); replace HB := As_.mk (below_step sqh hb); (try clear hb); obtain ⟨hcz41_0, hcz41_1, hcz41_2, hcz41_3, hcz41_4, hcz41_5, hfz41_0, hfz41_1, hfz41_2, hfz41_3, hfz41_4, hfz41_5⟩ := sd6 BK565.out; obtain ⟨hcz42_0, hcz42_1, hcz42_2, hcz42_3, hcz42_4, hcz42_5, hfz42_0, hfz42_1, hfz42_2, hfz42_3, hfz42_4, hfz42_5⟩ := sd6 BK580.out) | ((with_reducible refine gate_builtin (b := .append) (xs := #[.tmp 68, .tmp 70]) rfl ?_); at_builtin; refine Kd.R_append k55 (w0 := w) w.heap.size rfl (.tmp 68) (.tmp 70) 28 55 (.agg #[(.int .i64 0), (.int .i64 0), (.int .i64 0), (.int .i64 0), (.int .i64 0), (.int .i64 0)]) 48 rfl Try.underlying28 info55 rfl (by decide) (by omega) u6 x6_24 (⟨a1_0, a1_1, a1_2, a1_3, a1_4, a1_5⟩ : S55) [.int .i64 a1_0, .int .i64 a1_1, .int .i64 a1_2, .int .i64 a1_3, .int .i64 a1_4, .int .i64 a1_5] (fun k_ => k_ ≠ gb565 ∧ k_ ≠ gb580) (fun _ => False) rfl (by first | (go_simp; done) | (go_simp; rfl)) ?aP (fun _ hk => hk.elim) ?aF ?aO ?aB ?aS ?aL ?_; (case aP => exact k55_mkM _ _ _ (⟨a1_0, a1_1, a1_2, a1_3, a1_4, a1_5⟩ : S55)); (case aB => exact sqh); (case aF => exact (fun k_ hk => ⟨Kd.freshB (g := gb565) (o := .cells #[.int .i64 a1_0, .int .i64 a1_1, .int .i64 a1_2, .int .i64 a1_3, .int .i64 a1_4, .int .i64 a1_5] 55 (0, 0)) (bp BK565) k_ hk, Kd.freshB (g := gb580) (o := .cells #[.int .i64 a1_0, .int .i64 a1_1, .int .i64 a1_2, .int .i64 a1_3, .int .i64 a1_4, .int .i64 a1_5] 55 (0, 0)) (bp BK580) k_ hk⟩)); (case aO => exact z66_1); (case aS => exact (below_size sqh)); (case aL => have := LMc35.out; omega); intro v583 w43 ho hb hg hat; rw [← Ny582.out] at ho; replace BK565 := As_.mk (blk_grown (g := gb565) (o := .cells #[.int .i64 a1_0, .int .i64 a1_1, .int .i64 a1_2, .int .i64 a1_3, .int .i64 a1_4, .int .i64 a1_5] 55 (0, 0)) (bp BK565) hg (Kd.R_away HO_6.out (fun _ hk => hk.1))); replace BK580 := As_.mk (blk_grown (g := gb580) (o := .cells #[.int .i64 a1_0, .int .i64 a1_1, .int .i64 a1_2, .int .i64 a1_3, .int .i64 a1_4, .int .i64 a1_5] 55 (0, 0)) (bp BK580) hg (Kd.R_away HO_6.out (fun _ hk => hk.2))); replace HB := As_.mk (hb); have HO584 := As_.mk (ho); clear HO_6; clear ho hb hg hat))
                go_roundg kj24
                case measure => have := HJ2.out; have := HK2.out; have := HJ17.out; have := HJ24.out; omega
                case rel => exact ⟨(y582), (true), (wrap64 (x8_2 + 1)), sqr, sqr, H', ⟨by have := HJ2.out; have := HK2.out; have := HJ17.out; have := HJ24.out; omega⟩, ⟨by (with_reducible repeat (first | apply Kd.R_alloc | apply Kd.R_drewN | apply Kd.R_drew)); exact Kd.R_mono HO584.out (fun _ hk => hk.1)⟩, ⟨sqb BK565.out⟩, ⟨sqh⟩⟩
               ·rw [if_neg c35] at H
                exact absurd H (by simp)
              ·rw [if_neg c34] at H
               have c34b0 : decide (((rd_T55 l0 x8_2).f4) < a1_4) = false := decide_eq_false c34
               clear c34
               by_cases c44 : a1_4 = ((rd_T55 l0 x8_2).f4)
               ·rw [if_pos c44] at H
                have c44b0 : (a1_4 == ((rd_T55 l0 x8_2).f4)) = true := beq_iff_eq.mpr c44
                have c44b1 : (a1_4 != ((rd_T55 l0 x8_2).f4)) = false := bne_eq_false_iff_eq.mpr c44
                clear c44
                by_cases c45 : a1_5 > ((rd_T55 l0 x8_2).f5)
                ·rw [if_pos c45] at H
                 have c45b0 : decide (((rd_T55 l0 x8_2).f5) < a1_5) = true := decide_eq_true c45
                 clear c45
                 by_cases c46 : x6_24.length < 2932031007402
                 ·rw [if_pos c46] at H
                  have LMc46 := As_.mk c46
                  clear c46
                  obtain ⟨y585, hy585⟩ : ∃ y_ : List (S55), y_ = (x6_24 ++ [(⟨a1_0, a1_1, a1_2, a1_3, a1_4, a1_5⟩ : S55)]) := ⟨_, rfl⟩
                  replace H : (spec_PutFact.l0 kj24 l0 y585 true (wrap64 (x8_2 + 1)) a1_0 a1_1 a1_2 a1_3 a1_4 a1_5) = some (r1, r2) := by first | (rw [hy585]; with_reducible exact H) | (have H2_ := (Option.bind_some _ _).symm.trans H; rw [hy585]; with_reducible exact H2_) | (have H2_ := (Option.bind_some _ _).symm.trans H; with_reducible exact H2_) | with_reducible exact H | (rw [hy585]; exact H) | exact H
                  have Ny585 := As_.mk hy585
                  clear hy585
                  have H' := As_.mk H
                  clear H
                  have p579 : 0 ≤ (x8_2 : Int) := of_decide_eq_true sqs
                  have q579 : x8_2 < (l0.length : Int) := of_decide_eq_true sqs
                  obtain ⟨ad579, e579, hx579_0, hx579_1, hx579_2, hx579_3, hx579_4, hx579_5⟩ := at_T55 HR0.out x8_2 p579 q579
                  cases e579
                  replace hx579_0 := cl HB hx579_0; replace hx579_1 := cl HB hx579_1; replace hx579_2 := cl HB hx579_2; replace hx579_3 := cl HB hx579_3; replace hx579_4 := cl HB hx579_4; replace hx579_5 := cl HB hx579_5
                  replace p579 := eq_true p579
                  replace q579 := eq_true q579
                  go_wp2_with (first | ((with_reducible refine gate_dst (N := 9) rfl ?_); refine bx (N := 9) (cs := #[.int .i64 0, .int .i64 0, .int .i64 0, .int .i64 0, .int .i64 0, .int .i64 0]) (t := 55) ?_; intro gb580 hg w47 hbox hb; replace HO_6 := As_.mk (Kd.R_below (Kd.R_elderB (sqq HO_6.out) gb580 (Nat.le_of_eq hg.symm)) hb); have BK580 := As_.mk (hbox); have GW580 := As_.mk ((z66_2 : w.heap.size ≤ gb580)); have GE580 := As_.mk ((z66_2 : w.heap.size ≤ gb580)); replace HB := As_.mk (below_step sqh hb); have NB565_580 := As_.mk ((by rw [hg]; exact Nat.ne_of_lt (blk_lt (bo BK565)) : gb565 ≠ gb580)); have NB580_565 := As_.mk ((by rw [hg]; exact Nat.ne_of_gt (blk_lt (bo BK565)) : gb580 ≠ gb565)); replace BK565 := As_.mk (blk_below (bo BK565) hb); clear hb hbox hg; have hnb48 := NB580_565.out; have hnc48 := NB565_580.out; obtain ⟨hcz49_0, hcz49_1, hcz49_2, hcz49_3, hcz49_4, hcz49_5, hfz49_0, hfz49_1, hfz49_2, hfz49_3, hfz49_4, hfz49_5⟩ := sd6 BK580.out; obtain ⟨hcz50_0, hcz50_1, hcz50_2, hcz50_3, hcz50_4, hcz50_5, hfz50_0, hfz50_1, hfz50_2, hfz50_3, hfz50_4, hfz50_5⟩ := sd6 BK565.out) | ((with_reducible refine gate_callee (f := 109) rfl ?_); refine goesL_ (some 47) rfl rfl Try.func109 sqk rfl #[.agg #[.int .i64 a1_0, .int .i64 a1_1, .int .i64 a1_2, .int .i64 a1_3, .int .i64 a1_4, .int .i64 a1_5], .agg #[.int .i64 ((rd_T55 l0 x8_2).f0), .int .i64 ((rd_T55 l0 x8_2).f1), .int .i64 ((rd_T55 l0 x8_2).f2), .int .i64 ((rd_T55 l0 x8_2).f3), .int .i64 ((rd_T55 l0 x8_2).f4), .int .i64 ((rd_T55 l0 x8_2).f5)]] rfl sqm ?_; (with_reducible refine (spec_SameClaim.calls a1_0 a1_1 a1_2 a1_3 a1_4 a1_5 ((rd_T55 l0 x8_2).f0) ((rd_T55 l0 x8_2).f1) ((rd_T55 l0 x8_2).f2) ((rd_T55 l0 x8_2).f3) ((rd_T55 l0 x8_2).f4) ((rd_T55 l0 x8_2).f5) true _ A32.out).mono ?_); rintro e w51 ⟨rfl, hb⟩; refine ⟨_, rfl, ?_⟩; replace HO_6 := As_.mk (Kd.R_below z66_0 hb); replace BK565 := As_.mk (blk_below (g := gb565) (o := .cells #[.int .i64 a1_0, .int .i64 a1_1, .int .i64 a1_2, .int .i64 a1_3, .int .i64 a1_4, .int .i64 a1_5] 55 (0, 0)) (bp BK565) hb); replace BK580 := As_.mk (blk_below (g := gb580) (o := .cells #[.int .i64 ((rd_T55 l0 x8_2).f0), .int .i64 ((rd_T55 l0 x8_2).f1), .int .i64 ((rd_T55 l0 x8_2).f2), .int .i64 ((rd_T55 l0 x8_2).f3), .int .i64 ((rd_T55 l0 x8_2).f4), .int .i64 ((rd_T55 l0 x8_2).f5)] 55 (0, 0)) (bp BK580) hb); replace HB := As_.mk (below_step sqh hb); (try clear hb); obtain ⟨hcz52_0, hcz52_1, hcz52_2, hcz52_3, hcz52_4, hcz52_5, hfz52_0, hfz52_1, hfz52_2, hfz52_3, hfz52_4, hfz52_5⟩ := sd6 BK565.out; obtain ⟨hcz53_0, hcz53_1, hcz53_2, hcz53_3, hcz53_4, hcz53_5, hfz53_0, hfz53_1, hfz53_2, hfz53_3, hfz53_4, hfz53_5⟩ := sd6 BK580.out) | ((with_reducible refine gate_builtin (b := .append) (xs := #[.tmp 68, .tmp 70]) rfl ?_); at_builtin; refine Kd.R_append k55 (w0 := w) w.heap.size rfl (.tmp 68) (.tmp 70) 28 55 (.agg #[(.int .i64 0), (.int .i64 0), (.int .i64 0), (.int .i64 0), (.int .i64 0), (.int .i64 0)]) 48 rfl Try.underlying28 info55 rfl (by decide) (by omega) u6 x6_24 (⟨a1_0, a1_1, a1_2, a1_3, a1_4, a1_5⟩ : S55) [.int .i64 a1_0, .int .i64 a1_1, .int .i64 a1_2, .int .i64 a1_3, .int .i64 a1_4, .int .i64 a1_5] (fun k_ => k_ ≠ gb565 ∧ k_ ≠ gb580) (fun _ => False) rfl (by first | (go_simp; done) | (go_simp; rfl)) ?aP (fun _ hk => hk.elim) ?aF ?aO ?aB ?aS ?aL ?_; (case aP => exact k55_mkM _ _ _ (⟨a1_0, a1_1, a1_2, a1_3, a1_4, a1_5⟩ : S55)); (case aB => exact sqh); (case aF => exact (fun k_ hk => ⟨Kd.freshB (g := gb565) (o := .cells #[.int .i64 a1_0, .int .i64 a1_1, .int .i64 a1_2, .int .i64 a1_3, .int .i64 a1_4, .int .i64 a1_5] 55 (0, 0)) (bp BK565) k_ hk, Kd.freshB (g := gb580) (o := .cells #[.int .i64 a1_0, .int .i64 a1_1, .int .i64 a1_2, .int .i64 a1_3, .int .i64 a1_4, .int .i64 a1_5] 55 (0, 0)) (bp BK580) k_ hk⟩)); (case aO => exact z66_1); (case aS => exact (below_size sqh)); (case aL => have := LMc46.out; omega); intro v586 w54 ho hb hg hat; rw [← Ny585.out] at ho; replace BK565 := As_.mk (blk_grown (g := gb565) (o := .cells #[.int .i64 a1_0, .int .i64 a1_1, .int .i64 a1_2, .int .i64 a1_3, .int .i64 a1_4, .int .i64 a1_5] 55 (0, 0)) (bp BK565) hg (Kd.R_away HO_6.out (fun _ hk => hk.1))); replace BK580 := As_.mk (blk_grown (g := gb580) (o := .cells #[.int .i64 a1_0, .int .i64 a1_1, .int .i64 a1_2, .int .i64 a1_3, .int .i64 a1_4, .int .i64 a1_5] 55 (0, 0)) (bp BK580) hg (Kd.R_away HO_6.out (fun _ hk => hk.2))); replace HB := As_.mk (hb); have HO587 := As_.mk (ho); clear HO_6; clear ho hb hg hat))
                  go_roundg kj24
                  case measure => have := HJ2.out; have := HK2.out; have := HJ17.out; have := HJ24.out; omega
                  case rel => exact ⟨(y585), (true), (wrap64 (x8_2 + 1)), sqr, sqr, H', ⟨by have := HJ2.out; have := HK2.out; have := HJ17.out; have := HJ24.out; omega⟩, ⟨by (with_reducible repeat (first | apply Kd.R_alloc | apply Kd.R_drewN | apply Kd.R_drew)); exact Kd.R_mono HO587.out (fun _ hk => hk.1)⟩, ⟨sqb BK565.out⟩, ⟨sqh⟩⟩
                 ·rw [if_neg c46] at H
                  exact absurd H (by simp)
                ·rw [if_neg c45] at H
                 have c45b0 : decide (((rd_T55 l0 x8_2).f5) < a1_5) = false := decide_eq_false c45
                 clear c45
                 by_cases c55 : x6_24.length < 2932031007402
                 ·rw [if_pos c55] at H
                  have LMc55 := As_.mk c55
                  clear c55
                  obtain ⟨y588, hy588⟩ : ∃ y_ : List (S55), y_ = (x6_24 ++ [(⟨(rd_T55 l0 x8_2).f0, (rd_T55 l0 x8_2).f1, (rd_T55 l0 x8_2).f2, (rd_T55 l0 x8_2).f3, (rd_T55 l0 x8_2).f4, (rd_T55 l0 x8_2).f5⟩ : S55)]) := ⟨_, rfl⟩
                  replace H : (spec_PutFact.l0 kj24 l0 y588 true (wrap64 (x8_2 + 1)) a1_0 a1_1 a1_2 a1_3 a1_4 a1_5) = some (r1, r2) := by first | (rw [hy588]; with_reducible exact H) | (have H2_ := (Option.bind_some _ _).symm.trans H; rw [hy588]; with_reducible exact H2_) | (have H2_ := (Option.bind_some _ _).symm.trans H; with_reducible exact H2_) | with_reducible exact H | (rw [hy588]; exact H) | exact H
                  have Ny588 := As_.mk hy588
                  clear hy588
                  have H' := As_.mk H
                  clear H
                  have p579 : 0 ≤ (x8_2 : Int) := of_decide_eq_true sqs
                  have q579 : x8_2 < (l0.length : Int) := of_decide_eq_true sqs
                  obtain ⟨ad579, e579, hx579_0, hx579_1, hx579_2, hx579_3, hx579_4, hx579_5⟩ := at_T55 HR0.out x8_2 p579 q579
                  cases e579
                  replace hx579_0 := cl HB hx579_0; replace hx579_1 := cl HB hx579_1; replace hx579_2 := cl HB hx579_2; replace hx579_3 := cl HB hx579_3; replace hx579_4 := cl HB hx579_4; replace hx579_5 := cl HB hx579_5
                  replace p579 := eq_true p579
                  replace q579 := eq_true q579
                  go_wp2_with (first | ((with_reducible refine gate_dst (N := 9) rfl ?_); refine bx (N := 9) (cs := #[.int .i64 0, .int .i64 0, .int .i64 0, .int .i64 0, .int .i64 0, .int .i64 0]) (t := 55) ?_; intro gb580 hg w56 hbox hb; replace HO_6 := As_.mk (Kd.R_below (Kd.R_elderB (sqq HO_6.out) gb580 (Nat.le_of_eq hg.symm)) hb); have BK580 := As_.mk (hbox); have GW580 := As_.mk ((z66_2 : w.heap.size ≤ gb580)); have GE580 := As_.mk ((z66_2 : w.heap.size ≤ gb580)); replace HB := As_.mk (below_step sqh hb); have NB565_580 := As_.mk ((by rw [hg]; exact Nat.ne_of_lt (blk_lt (bo BK565)) : gb565 ≠ gb580)); have NB580_565 := As_.mk ((by rw [hg]; exact Nat.ne_of_gt (blk_lt (bo BK565)) : gb580 ≠ gb565)); replace BK565 := As_.mk (blk_below (bo BK565) hb); clear hb hbox hg; have hnb57 := NB580_565.out; have hnc57 := NB565_580.out; obtain ⟨hcz58_0, hcz58_1, hcz58_2, hcz58_3, hcz58_4, hcz58_5, hfz58_0, hfz58_1, hfz58_2, hfz58_3, hfz58_4, hfz58_5⟩ := sd6 BK580.out; obtain ⟨hcz59_0, hcz59_1, hcz59_2, hcz59_3, hcz59_4, hcz59_5, hfz59_0, hfz59_1, hfz59_2, hfz59_3, hfz59_4, hfz59_5⟩ := sd6 BK565.out) | ((with_reducible refine gate_callee (f := 109) rfl ?_); refine goesL_ (some 47) rfl rfl Try.func109 sqk rfl #[.agg #[.int .i64 a1_0, .int .i64 a1_1, .int .i64 a1_2, .int .i64 a1_3, .int .i64 a1_4, .int .i64 a1_5], .agg #[.int .i64 ((rd_T55 l0 x8_2).f0), .int .i64 ((rd_T55 l0 x8_2).f1), .int .i64 ((rd_T55 l0 x8_2).f2), .int .i64 ((rd_T55 l0 x8_2).f3), .int .i64 ((rd_T55 l0 x8_2).f4), .int .i64 ((rd_T55 l0 x8_2).f5)]] rfl sqm ?_; (with_reducible refine (spec_SameClaim.calls a1_0 a1_1 a1_2 a1_3 a1_4 a1_5 ((rd_T55 l0 x8_2).f0) ((rd_T55 l0 x8_2).f1) ((rd_T55 l0 x8_2).f2) ((rd_T55 l0 x8_2).f3) ((rd_T55 l0 x8_2).f4) ((rd_T55 l0 x8_2).f5) true _ A32.out).mono ?_); rintro e w60 ⟨rfl, hb⟩; refine ⟨_, rfl, ?_⟩; replace HO_6 := As_.mk (Kd.R_below z66_0 hb); replace BK565 := As_.mk (blk_below (g := gb565) (o := .cells #[.int .i64 a1_0, .int .i64 a1_1, .int .i64 a1_2, .int .i64 a1_3, .int .i64 a1_4, .int .i64 a1_5] 55 (0, 0)) (bp BK565) hb); replace BK580 := As_.mk (blk_below (g := gb580) (o := .cells #[.int .i64 ((rd_T55 l0 x8_2).f0), .int .i64 ((rd_T55 l0 x8_2).f1), .int .i64 ((rd_T55 l0 x8_2).f2), .int .i64 ((rd_T55 l0 x8_2).f3), .int .i64 ((rd_T55 l0 x8_2).f4), .int .i64 ((rd_T55 l0 x8_2).f5)] 55 (0, 0)) (bp BK580) hb); replace HB := As_.mk (below_step sqh hb); (try clear hb); obtain ⟨hcz61_0, hcz61_1, hcz61_2, hcz61_3, hcz61_4, hcz61_5, hfz61_0, hfz61_1, hfz61_2, hfz61_3, hfz61_4, hfz61_5⟩ := sd6 BK565.out; obtain ⟨hcz62_0, hcz62_1, hcz62_2, hcz62_3, hcz62_4, hcz62_5, hfz62_0, hfz62_1, hfz62_2, hfz62_3, hfz62_4, hfz62_5⟩ := sd6 BK580.out) | ((with_reducible refine gate_builtin (b := .append) (xs := #[.tmp 68, .tmp 70]) rfl ?_); at_builtin; refine Kd.R_append k55 (w0 := w) w.heap.size rfl (.tmp 68) (.tmp 70) 28 55 (.agg #[(.int .i64 0), (.int .i64 0), (.int .i64 0), (.int .i64 0), (.int .i64 0), (.int .i64 0)]) 48 rfl Try.underlying28 info55 rfl (by decide) (by omega) u6 x6_24 (⟨(rd_T55 l0 x8_2).f0, (rd_T55 l0 x8_2).f1, (rd_T55 l0 x8_2).f2, (rd_T55 l0 x8_2).f3, (rd_T55 l0 x8_2).f4, (rd_T55 l0 x8_2).f5⟩ : S55) [.int .i64 ((rd_T55 l0 x8_2).f0), .int .i64 ((rd_T55 l0 x8_2).f1), .int .i64 ((rd_T55 l0 x8_2).f2), .int .i64 ((rd_T55 l0 x8_2).f3), .int .i64 ((rd_T55 l0 x8_2).f4), .int .i64 ((rd_T55 l0 x8_2).f5)] (fun k_ => k_ ≠ gb565 ∧ k_ ≠ gb580) (fun _ => False) rfl rfl ?aP (fun _ hk => hk.elim) ?aF ?aO ?aB ?aS ?aL ?_; (case aP => exact k55_mkM _ _ _ (⟨(rd_T55 l0 x8_2).f0, (rd_T55 l0 x8_2).f1, (rd_T55 l0 x8_2).f2, (rd_T55 l0 x8_2).f3, (rd_T55 l0 x8_2).f4, (rd_T55 l0 x8_2).f5⟩ : S55)); (case aB => exact sqh); (case aF => exact (fun k_ hk => ⟨Kd.freshB (bo BK565) k_ hk, Kd.freshB (bo BK580) k_ hk⟩)); (case aO => exact (sqq HO_6.out)); (case aS => exact (below_size sqh)); (case aL => have := LMc55.out; omega); intro v589 w63 ho hb hg hat; rw [← Ny588.out] at ho; replace BK565 := As_.mk (blk_grown (bo BK565) hg (Kd.R_away HO_6.out (fun _ hk => hk.1))); replace BK580 := As_.mk (blk_grown (bo BK580) hg (Kd.R_away HO_6.out (fun _ hk => hk.2))); replace HB := As_.mk (hb); have HO590 := As_.mk (ho); clear HO_6; clear ho hb hg hat))
                  go_roundg kj24
                  case measure => have := HJ2.out; have := HK2.out; have := HJ17.out; have := HJ24.out; omega
                  case rel => exact ⟨(y588), (true), (wrap64 (x8_2 + 1)), sqr, sqr, H', ⟨by have := HJ2.out; have := HK2.out; have := HJ17.out; have := HJ24.out; omega⟩, ⟨by (with_reducible repeat (first | apply Kd.R_alloc | apply Kd.R_drewN | apply Kd.R_drew)); exact Kd.R_mono HO590.out (fun _ hk => hk.1)⟩, ⟨sqb BK565.out⟩, ⟨sqh⟩⟩
                 ·rw [if_neg c55] at H
                  exact absurd H (by simp)
               ·rw [if_neg c44] at H
                have c44b0 : (a1_4 == ((rd_T55 l0 x8_2).f4)) = false := beq_eq_false_iff_ne.mpr c44
                have c44b1 : (a1_4 != ((rd_T55 l0 x8_2).f4)) = true := bne_iff_ne.mpr c44
                by_cases c64 : x6_24.length < 2932031007402
                ·rw [if_pos c64] at H
                 have LMc64 := As_.mk c64
                 clear c64
                 obtain ⟨y591, hy591⟩ : ∃ y_ : List (S55), y_ = (x6_24 ++ [(⟨(rd_T55 l0 x8_2).f0, (rd_T55 l0 x8_2).f1, (rd_T55 l0 x8_2).f2, (rd_T55 l0 x8_2).f3, (rd_T55 l0 x8_2).f4, (rd_T55 l0 x8_2).f5⟩ : S55)]) := ⟨_, rfl⟩
                 replace H : (spec_PutFact.l0 kj24 l0 y591 true (wrap64 (x8_2 + 1)) a1_0 a1_1 a1_2 a1_3 a1_4 a1_5) = some (r1, r2) := by first | (rw [hy591]; with_reducible exact H) | (have H2_ := (Option.bind_some _ _).symm.trans H; rw [hy591]; with_reducible exact H2_) | (have H2_ := (Option.bind_some _ _).symm.trans H; with_reducible exact H2_) | with_reducible exact H | (rw [hy591]; exact H) | exact H
                 have Ny591 := As_.mk hy591
                 clear hy591
                 have H' := As_.mk H
                 clear H
                 have p579 : 0 ≤ (x8_2 : Int) := of_decide_eq_true sqs
                 have q579 : x8_2 < (l0.length : Int) := of_decide_eq_true sqs
                 obtain ⟨ad579, e579, hx579_0, hx579_1, hx579_2, hx579_3, hx579_4, hx579_5⟩ := at_T55 HR0.out x8_2 p579 q579
                 cases e579
                 replace hx579_0 := cl HB hx579_0; replace hx579_1 := cl HB hx579_1; replace hx579_2 := cl HB hx579_2; replace hx579_3 := cl HB hx579_3; replace hx579_4 := cl HB hx579_4; replace hx579_5 := cl HB hx579_5
                 replace p579 := eq_true p579
                 replace q579 := eq_true q579
                 go_wp2_with (first | ((with_reducible refine gate_dst (N := 9) rfl ?_); refine bx (N := 9) (cs := #[.int .i64 0, .int .i64 0, .int .i64 0, .int .i64 0, .int .i64 0, .int .i64 0]) (t := 55) ?_; intro gb580 hg w65 hbox hb; replace HO_6 := As_.mk (Kd.R_below (Kd.R_elderB (sqq HO_6.out) gb580 (Nat.le_of_eq hg.symm)) hb); have BK580 := As_.mk (hbox); have GW580 := As_.mk ((z66_2 : w.heap.size ≤ gb580)); have GE580 := As_.mk ((z66_2 : w.heap.size ≤ gb580)); replace HB := As_.mk (below_step sqh hb); have NB565_580 := As_.mk ((by rw [hg]; exact Nat.ne_of_lt (blk_lt (bo BK565)) : gb565 ≠ gb580)); have NB580_565 := As_.mk ((by rw [hg]; exact Nat.ne_of_gt (blk_lt (bo BK565)) : gb580 ≠ gb565)); replace BK565 := As_.mk (blk_below (bo BK565) hb); clear hb hbox hg; have hnb66 := NB580_565.out; have hnc66 := NB565_580.out; obtain ⟨hcz67_0, hcz67_1, hcz67_2, hcz67_3, hcz67_4, hcz67_5, hfz67_0, hfz67_1, hfz67_2, hfz67_3, hfz67_4, hfz67_5⟩ := sd6 BK580.out; obtain ⟨hcz68_0, hcz68_1, hcz68_2, hcz68_3, hcz68_4, hcz68_5, hfz68_0, hfz68_1, hfz68_2, hfz68_3, hfz68_4, hfz68_5⟩ := sd6 BK565.out) | ((with_reducible refine gate_callee (f := 109) rfl ?_); refine goesL_ (some 47) rfl rfl Try.func109 sqk rfl #[.agg #[.int .i64 a1_0, .int .i64 a1_1, .int .i64 a1_2, .int .i64 a1_3, .int .i64 a1_4, .int .i64 a1_5], .agg #[.int .i64 ((rd_T55 l0 x8_2).f0), .int .i64 ((rd_T55 l0 x8_2).f1), .int .i64 ((rd_T55 l0 x8_2).f2), .int .i64 ((rd_T55 l0 x8_2).f3), .int .i64 ((rd_T55 l0 x8_2).f4), .int .i64 ((rd_T55 l0 x8_2).f5)]] rfl sqm ?_; (with_reducible refine (spec_SameClaim.calls a1_0 a1_1 a1_2 a1_3 a1_4 a1_5 ((rd_T55 l0 x8_2).f0) ((rd_T55 l0 x8_2).f1) ((rd_T55 l0 x8_2).f2) ((rd_T55 l0 x8_2).f3) ((rd_T55 l0 x8_2).f4) ((rd_T55 l0 x8_2).f5) true _ A32.out).mono ?_); rintro e w69 ⟨rfl, hb⟩; refine ⟨_, rfl, ?_⟩; replace HO_6 := As_.mk (Kd.R_below z66_0 hb); replace BK565 := As_.mk (blk_below (g := gb565) (o := .cells #[.int .i64 a1_0, .int .i64 a1_1, .int .i64 a1_2, .int .i64 a1_3, .int .i64 a1_4, .int .i64 a1_5] 55 (0, 0)) (bp BK565) hb); replace BK580 := As_.mk (blk_below (g := gb580) (o := .cells #[.int .i64 ((rd_T55 l0 x8_2).f0), .int .i64 ((rd_T55 l0 x8_2).f1), .int .i64 ((rd_T55 l0 x8_2).f2), .int .i64 ((rd_T55 l0 x8_2).f3), .int .i64 ((rd_T55 l0 x8_2).f4), .int .i64 ((rd_T55 l0 x8_2).f5)] 55 (0, 0)) (bp BK580) hb); replace HB := As_.mk (below_step sqh hb); (try clear hb); obtain ⟨hcz70_0, hcz70_1, hcz70_2, hcz70_3, hcz70_4, hcz70_5, hfz70_0, hfz70_1, hfz70_2, hfz70_3, hfz70_4, hfz70_5⟩ := sd6 BK565.out; obtain ⟨hcz71_0, hcz71_1, hcz71_2, hcz71_3, hcz71_4, hcz71_5, hfz71_0, hfz71_1, hfz71_2, hfz71_3, hfz71_4, hfz71_5⟩ := sd6 BK580.out) | ((with_reducible refine gate_builtin (b := .append) (xs := #[.tmp 68, .tmp 70]) rfl ?_); at_builtin; refine Kd.R_append k55 (w0 := w) w.heap.size rfl (.tmp 68) (.tmp 70) 28 55 (.agg #[(.int .i64 0), (.int .i64 0), (.int .i64 0), (.int .i64 0), (.int .i64 0), (.int .i64 0)]) 48 rfl Try.underlying28 info55 rfl (by decide) (by omega) u6 x6_24 (⟨(rd_T55 l0 x8_2).f0, (rd_T55 l0 x8_2).f1, (rd_T55 l0 x8_2).f2, (rd_T55 l0 x8_2).f3, (rd_T55 l0 x8_2).f4, (rd_T55 l0 x8_2).f5⟩ : S55) [.int .i64 ((rd_T55 l0 x8_2).f0), .int .i64 ((rd_T55 l0 x8_2).f1), .int .i64 ((rd_T55 l0 x8_2).f2), .int .i64 ((rd_T55 l0 x8_2).f3), .int .i64 ((rd_T55 l0 x8_2).f4), .int .i64 ((rd_T55 l0 x8_2).f5)] (fun k_ => k_ ≠ gb565 ∧ k_ ≠ gb580) (fun _ => False) rfl rfl ?aP (fun _ hk => hk.elim) ?aF ?aO ?aB ?aS ?aL ?_; (case aP => exact k55_mkM _ _ _ (⟨(rd_T55 l0 x8_2).f0, (rd_T55 l0 x8_2).f1, (rd_T55 l0 x8_2).f2, (rd_T55 l0 x8_2).f3, (rd_T55 l0 x8_2).f4, (rd_T55 l0 x8_2).f5⟩ : S55)); (case aB => exact sqh); (case aF => exact (fun k_ hk => ⟨Kd.freshB (bo BK565) k_ hk, Kd.freshB (bo BK580) k_ hk⟩)); (case aO => exact (sqq HO_6.out)); (case aS => exact (below_size sqh)); (case aL => have := LMc64.out; omega); intro v592 w72 ho hb hg hat; rw [← Ny591.out] at ho; replace BK565 := As_.mk (blk_grown (bo BK565) hg (Kd.R_away HO_6.out (fun _ hk => hk.1))); replace BK580 := As_.mk (blk_grown (bo BK580) hg (Kd.R_away HO_6.out (fun _ hk => hk.2))); replace HB := As_.mk (hb); have HO593 := As_.mk (ho); clear HO_6; clear ho hb hg hat))
                 go_roundg kj24
                 case measure => have := HJ2.out; have := HK2.out; have := HJ17.out; have := HJ24.out; omega
                 case rel => exact ⟨(y591), (true), (wrap64 (x8_2 + 1)), sqr, sqr, H', ⟨by have := HJ2.out; have := HK2.out; have := HJ17.out; have := HJ24.out; omega⟩, ⟨by (with_reducible repeat (first | apply Kd.R_alloc | apply Kd.R_drewN | apply Kd.R_drew)); exact Kd.R_mono HO593.out (fun _ hk => hk.1)⟩, ⟨sqb BK565.out⟩, ⟨sqh⟩⟩
                ·rw [if_neg c64] at H
                 exact absurd H (by simp)
             ·replace c33 := Bool.eq_false_iff.mpr c33
              subst c33
              replace H := iF H
              by_cases c73 : x6_24.length < 2932031007402
              ·rw [if_pos c73] at H
               have LMc73 := As_.mk c73
               clear c73
               obtain ⟨y594, hy594⟩ : ∃ y_ : List (S55), y_ = (x6_24 ++ [(⟨(rd_T55 l0 x8_2).f0, (rd_T55 l0 x8_2).f1, (rd_T55 l0 x8_2).f2, (rd_T55 l0 x8_2).f3, (rd_T55 l0 x8_2).f4, (rd_T55 l0 x8_2).f5⟩ : S55)]) := ⟨_, rfl⟩
               replace H : (spec_PutFact.l0 kj24 l0 y594 x7_24 (wrap64 (x8_2 + 1)) a1_0 a1_1 a1_2 a1_3 a1_4 a1_5) = some (r1, r2) := by first | (rw [hy594]; with_reducible exact H) | (have H2_ := (Option.bind_some _ _).symm.trans H; rw [hy594]; with_reducible exact H2_) | (have H2_ := (Option.bind_some _ _).symm.trans H; with_reducible exact H2_) | with_reducible exact H | (rw [hy594]; exact H) | exact H
               have Ny594 := As_.mk hy594
               clear hy594
               have H' := As_.mk H
               clear H
               have p579 : 0 ≤ (x8_2 : Int) := of_decide_eq_true sqs
               have q579 : x8_2 < (l0.length : Int) := of_decide_eq_true sqs
               obtain ⟨ad579, e579, hx579_0, hx579_1, hx579_2, hx579_3, hx579_4, hx579_5⟩ := at_T55 HR0.out x8_2 p579 q579
               cases e579
               replace hx579_0 := cl HB hx579_0; replace hx579_1 := cl HB hx579_1; replace hx579_2 := cl HB hx579_2; replace hx579_3 := cl HB hx579_3; replace hx579_4 := cl HB hx579_4; replace hx579_5 := cl HB hx579_5
               replace p579 := eq_true p579
               replace q579 := eq_true q579
               go_wp2_with (first | ((with_reducible refine gate_dst (N := 9) rfl ?_); refine bx (N := 9) (cs := #[.int .i64 0, .int .i64 0, .int .i64 0, .int .i64 0, .int .i64 0, .int .i64 0]) (t := 55) ?_; intro gb580 hg w74 hbox hb; replace HO_6 := As_.mk (Kd.R_below (Kd.R_elderB (sqq HO_6.out) gb580 (Nat.le_of_eq hg.symm)) hb); have BK580 := As_.mk (hbox); have GW580 := As_.mk ((z66_2 : w.heap.size ≤ gb580)); have GE580 := As_.mk ((z66_2 : w.heap.size ≤ gb580)); replace HB := As_.mk (below_step sqh hb); have NB565_580 := As_.mk ((by rw [hg]; exact Nat.ne_of_lt (blk_lt (bo BK565)) : gb565 ≠ gb580)); have NB580_565 := As_.mk ((by rw [hg]; exact Nat.ne_of_gt (blk_lt (bo BK565)) : gb580 ≠ gb565)); replace BK565 := As_.mk (blk_below (bo BK565) hb); clear hb hbox hg; have hnb75 := NB580_565.out; have hnc75 := NB565_580.out; obtain ⟨hcz76_0, hcz76_1, hcz76_2, hcz76_3, hcz76_4, hcz76_5, hfz76_0, hfz76_1, hfz76_2, hfz76_3, hfz76_4, hfz76_5⟩ := sd6 BK580.out; obtain ⟨hcz77_0, hcz77_1, hcz77_2, hcz77_3, hcz77_4, hcz77_5, hfz77_0, hfz77_1, hfz77_2, hfz77_3, hfz77_4, hfz77_5⟩ := sd6 BK565.out) | ((with_reducible refine gate_callee (f := 109) rfl ?_); refine goesL_ (some 47) rfl rfl Try.func109 sqk rfl #[.agg #[.int .i64 a1_0, .int .i64 a1_1, .int .i64 a1_2, .int .i64 a1_3, .int .i64 a1_4, .int .i64 a1_5], .agg #[.int .i64 ((rd_T55 l0 x8_2).f0), .int .i64 ((rd_T55 l0 x8_2).f1), .int .i64 ((rd_T55 l0 x8_2).f2), .int .i64 ((rd_T55 l0 x8_2).f3), .int .i64 ((rd_T55 l0 x8_2).f4), .int .i64 ((rd_T55 l0 x8_2).f5)]] rfl sqm ?_; (with_reducible refine (spec_SameClaim.calls a1_0 a1_1 a1_2 a1_3 a1_4 a1_5 ((rd_T55 l0 x8_2).f0) ((rd_T55 l0 x8_2).f1) ((rd_T55 l0 x8_2).f2) ((rd_T55 l0 x8_2).f3) ((rd_T55 l0 x8_2).f4) ((rd_T55 l0 x8_2).f5) false _ A32.out).mono ?_); rintro e w78 ⟨rfl, hb⟩; refine ⟨_, rfl, ?_⟩; replace HO_6 := As_.mk (Kd.R_below z66_0 hb); replace BK565 := As_.mk (blk_below (g := gb565) (o := .cells #[.int .i64 a1_0, .int .i64 a1_1, .int .i64 a1_2, .int .i64 a1_3, .int .i64 a1_4, .int .i64 a1_5] 55 (0, 0)) (bp BK565) hb); replace BK580 := As_.mk (blk_below (g := gb580) (o := .cells #[.int .i64 ((rd_T55 l0 x8_2).f0), .int .i64 ((rd_T55 l0 x8_2).f1), .int .i64 ((rd_T55 l0 x8_2).f2), .int .i64 ((rd_T55 l0 x8_2).f3), .int .i64 ((rd_T55 l0 x8_2).f4), .int .i64 ((rd_T55 l0 x8_2).f5)] 55 (0, 0)) (bp BK580) hb); replace HB := As_.mk (below_step sqh hb); (try clear hb); obtain ⟨hcz79_0, hcz79_1, hcz79_2, hcz79_3, hcz79_4, hcz79_5, hfz79_0, hfz79_1, hfz79_2, hfz79_3, hfz79_4, hfz79_5⟩ := sd6 BK580.out) | ((with_reducible refine gate_builtin (b := .append) (xs := #[.tmp 68, .tmp 70]) rfl ?_); at_builtin; refine Kd.R_append k55 (w0 := w) w.heap.size rfl (.tmp 68) (.tmp 70) 28 55 (.agg #[(.int .i64 0), (.int .i64 0), (.int .i64 0), (.int .i64 0), (.int .i64 0), (.int .i64 0)]) 48 rfl Try.underlying28 info55 rfl (by decide) (by omega) u6 x6_24 (⟨(rd_T55 l0 x8_2).f0, (rd_T55 l0 x8_2).f1, (rd_T55 l0 x8_2).f2, (rd_T55 l0 x8_2).f3, (rd_T55 l0 x8_2).f4, (rd_T55 l0 x8_2).f5⟩ : S55) [.int .i64 ((rd_T55 l0 x8_2).f0), .int .i64 ((rd_T55 l0 x8_2).f1), .int .i64 ((rd_T55 l0 x8_2).f2), .int .i64 ((rd_T55 l0 x8_2).f3), .int .i64 ((rd_T55 l0 x8_2).f4), .int .i64 ((rd_T55 l0 x8_2).f5)] (fun k_ => k_ ≠ gb565 ∧ k_ ≠ gb580) (fun _ => False) rfl rfl ?aP (fun _ hk => hk.elim) ?aF ?aO ?aB ?aS ?aL ?_; (case aP => exact k55_mkM _ _ _ (⟨(rd_T55 l0 x8_2).f0, (rd_T55 l0 x8_2).f1, (rd_T55 l0 x8_2).f2, (rd_T55 l0 x8_2).f3, (rd_T55 l0 x8_2).f4, (rd_T55 l0 x8_2).f5⟩ : S55)); (case aB => exact sqh); (case aF => exact (fun k_ hk => ⟨Kd.freshB (bo BK565) k_ hk, Kd.freshB (bo BK580) k_ hk⟩)); (case aO => exact (sqq HO_6.out)); (case aS => exact (below_size sqh)); (case aL => have := LMc73.out; omega); intro v595 w80 ho hb hg hat; rw [← Ny594.out] at ho; replace BK565 := As_.mk (blk_grown (bo BK565) hg (Kd.R_away HO_6.out (fun _ hk => hk.1))); replace BK580 := As_.mk (blk_grown (bo BK580) hg (Kd.R_away HO_6.out (fun _ hk => hk.2))); replace HB := As_.mk (hb); have HO596 := As_.mk (ho); clear HO_6; clear ho hb hg hat))
               go_roundg kj24
               case measure => have := HJ2.out; have := HK2.out; have := HJ17.out; have := HJ24.out; omega
               case rel => exact ⟨(y594), (x7_24), (wrap64 (x8_2 + 1)), sqr, sqr, H', ⟨by have := HJ2.out; have := HK2.out; have := HJ17.out; have := HJ24.out; omega⟩, ⟨by (with_reducible repeat (first | apply Kd.R_alloc | apply Kd.R_drewN | apply Kd.R_drew)); exact Kd.R_mono HO596.out (fun _ hk => hk.1)⟩, ⟨sqb BK565.out⟩, ⟨sqh⟩⟩
              ·rw [if_neg c73] at H
               exact absurd H (by simp)
            ·rw [if_neg c31] at H
             exact absurd H (by simp)
           ·rw [if_neg c30] at H
            exact absurd H (by simp)
      ·rw [if_neg c17] at H
       have c17b0 : decide (x8_2 < (l0.length : Int)) = false := decide_eq_false c17
       clear c17
       by_cases c81 : x7_2 = true
       ·subst c81
        replace H := iT H
        by_cases c82 : (x6_2.length : Int) > 30
        ·rw [if_pos c82] at H
         have c82b0 : decide (30 < (x6_2.length : Int)) = true := decide_eq_true c82
         have c82b1 : decide (30 < x6_2.length) = true := decide_eq_true (by omega)
         clear c82
         obtain ⟨t597, A83, H⟩ := bA H
         simp only [Option.some.injEq, Prod.mk.injEq] at H
         obtain ⟨rfl, rfl⟩ := H
         obtain ⟨Ao84, co84, eo84⟩ := Kd.R_slice HO_6.out
         subst eo84
         go_wp2_with (first | ((with_reducible refine gate_callee (f := 65) rfl ?_); refine goesL_ (some 82) rfl rfl Try.func65 sqk rfl #[.slice A0 l0.length c0] rfl sqm ?_; (with_reducible refine (spec_l7Copy.calls _ _ l0 t597 _ ?side1 ?side2 A83.out).mono ?_); (case side1 => exact sqn (Kd.C_below HR0.out HB.out)); (case side2 => exact HC0.out); rintro e w85 ⟨v598, rfl, ho0, hb⟩; refine ⟨_, rfl, ?_⟩; have HO599 := As_.mk (Kd.R_lower (Kd.R_newB (Kd.R_new' ho0 (Kd.R_lt (sqq HO_6.out))) (bo BK565)) (below_size sqh)); replace HO_6 := As_.mk (Kd.R_elder' (sqq HO_6.out) (Kd.R_base ho0) hb); replace BK565 := As_.mk (blk_below (bo BK565) hb); replace HB := As_.mk (below_step sqh hb); (try clear hb); (try clear ho0)))
         go_ret2
         exact ⟨_, sqe, by (with_reducible repeat (first | apply Kd.R_alloc | apply Kd.R_drewN | apply Kd.R_drew)); exact Kd.R_mono HO599.out (fun _ hk => trivial), sqh⟩
        ·rw [if_neg c82] at H
         have c82b0 : decide (30 < (x6_2.length : Int)) = false := decide_eq_false c82
         have c82b1 : decide (30 < x6_2.length) = false := decide_eq_false (by omega)
         clear c82
         simp only [Option.some.injEq, Prod.mk.injEq] at H
         obtain ⟨rfl, rfl⟩ := H
         obtain ⟨Ao86, co86, eo86⟩ := Kd.R_slice HO_6.out
         subst eo86
         go_wp2
         go_ret2
         exact ⟨_, sqe, by (with_reducible repeat (first | apply Kd.R_alloc | apply Kd.R_drewN | apply Kd.R_drew)); exact Kd.R_mono HO_6.out (fun _ hk => trivial), sqh⟩
       ·replace c81 := Bool.eq_false_iff.mpr c81
        subst c81
        replace H := iF H
        by_cases c87 : x6_2.length < 2932031007402
        ·rw [if_pos c87] at H
         have LMc87 := As_.mk c87
         clear c87
         obtain ⟨y600, hy600⟩ : ∃ y_ : List (S55), y_ = (x6_2 ++ [(⟨a1_0, a1_1, a1_2, a1_3, a1_4, a1_5⟩ : S55)]) := ⟨_, rfl⟩
         replace H : (if (y600.length : Int) > 30 then ((spec_l7Copy.f l0).bind fun t603 => (some (t603, false))) else (some (y600, true))) = some (r1, r2) := by first | (rw [hy600]; with_reducible exact H) | (have H2_ := (Option.bind_some _ _).symm.trans H; rw [hy600]; with_reducible exact H2_) | (have H2_ := (Option.bind_some _ _).symm.trans H; with_reducible exact H2_) | with_reducible exact H | (rw [hy600]; exact H) | exact H
         have Ny600 := As_.mk hy600
         clear hy600
         by_cases c88 : (y600.length : Int) > 30
         ·rw [if_pos c88] at H
          have c88b0 : decide (30 < (y600.length : Int)) = true := decide_eq_true c88
          have c88b1 : decide (30 < y600.length) = true := decide_eq_true (by omega)
          clear c88
          obtain ⟨t603, A89, H⟩ := bA H
          simp only [Option.some.injEq, Prod.mk.injEq] at H
          obtain ⟨rfl, rfl⟩ := H
          obtain ⟨hcz90_0, hcz90_1, hcz90_2, hcz90_3, hcz90_4, hcz90_5, hfz90_0, hfz90_1, hfz90_2, hfz90_3, hfz90_4, hfz90_5⟩ := sd6 BK565.out
          go_wp2_with (first | ((with_reducible refine gate_builtin (b := .append) (xs := #[.tmp 74, .tmp 76]) rfl ?_); at_builtin; refine Kd.R_append k55 (w0 := w) w.heap.size rfl (.tmp 74) (.tmp 76) 28 55 (.agg #[(.int .i64 0), (.int .i64 0), (.int .i64 0), (.int .i64 0), (.int .i64 0), (.int .i64 0)]) 48 rfl Try.underlying28 info55 rfl (by decide) (by omega) u6 x6_2 (⟨a1_0, a1_1, a1_2, a1_3, a1_4, a1_5⟩ : S55) [.int .i64 a1_0, .int .i64 a1_1, .int .i64 a1_2, .int .i64 a1_3, .int .i64 a1_4, .int .i64 a1_5] (fun k_ => k_ ≠ gb565) (fun _ => False) rfl rfl ?aP (fun _ hk => hk.elim) ?aF ?aO ?aB ?aS ?aL ?_; (case aP => exact k55_mkM _ _ _ (⟨a1_0, a1_1, a1_2, a1_3, a1_4, a1_5⟩ : S55)); (case aB => exact sqh); (case aF => exact (fun k_ hk => Kd.freshB (bo BK565) k_ hk)); (case aO => exact (sqq HO_6.out)); (case aS => exact (below_size sqh)); (case aL => have := LMc87.out; omega); intro v601 w91 ho hb hg hat; rw [← Ny600.out] at ho; replace BK565 := As_.mk (blk_grown (bo BK565) hg (Kd.R_away HO_6.out (fun _ hk => hk))); replace HB := As_.mk (hb); have HO602 := As_.mk (ho); clear HO_6; clear ho hb hg hat; obtain ⟨Ao92, co92, eo92⟩ := Kd.R_slice HO602.out; subst eo92) | ((with_reducible refine gate_callee (f := 65) rfl ?_); refine goesL_ (some 82) rfl rfl Try.func65 sqk rfl #[.slice A0 l0.length c0] rfl sqm ?_; (with_reducible refine (spec_l7Copy.calls _ _ l0 t603 _ ?side1 ?side2 A89.out).mono ?_); (case side1 => exact sqn (Kd.C_below HR0.out HB.out)); (case side2 => exact HC0.out); rintro e w93 ⟨v604, rfl, ho0, hb⟩; refine ⟨_, rfl, ?_⟩; have HO605 := As_.mk (Kd.R_lower (Kd.R_newB (Kd.R_new' ho0 (Kd.R_lt (sqq HO602.out))) (bo BK565)) (below_size sqh)); replace HO602 := As_.mk (Kd.R_elder' (sqq HO602.out) (Kd.R_base ho0) hb); replace BK565 := As_.mk (blk_below (bo BK565) hb); replace HB := As_.mk (below_step sqh hb); (try clear hb); (try clear ho0)))
          go_ret2
          exact ⟨_, sqe, by (with_reducible repeat (first | apply Kd.R_alloc | apply Kd.R_drewN | apply Kd.R_drew)); exact Kd.R_mono HO605.out (fun _ hk => trivial), sqh⟩
         ·rw [if_neg c88] at H
          have c88b0 : decide (30 < (y600.length : Int)) = false := decide_eq_false c88
          have c88b1 : decide (30 < y600.length) = false := decide_eq_false (by omega)
          clear c88
          simp only [Option.some.injEq, Prod.mk.injEq] at H
          obtain ⟨rfl, rfl⟩ := H
          obtain ⟨hcz94_0, hcz94_1, hcz94_2, hcz94_3, hcz94_4, hcz94_5, hfz94_0, hfz94_1, hfz94_2, hfz94_3, hfz94_4, hfz94_5⟩ := sd6 BK565.out
          go_wp2_with (first | ((with_reducible refine gate_builtin (b := .append) (xs := #[.tmp 74, .tmp 76]) rfl ?_); at_builtin; refine Kd.R_append k55 (w0 := w) w.heap.size rfl (.tmp 74) (.tmp 76) 28 55 (.agg #[(.int .i64 0), (.int .i64 0), (.int .i64 0), (.int .i64 0), (.int .i64 0), (.int .i64 0)]) 48 rfl Try.underlying28 info55 rfl (by decide) (by omega) u6 x6_2 (⟨a1_0, a1_1, a1_2, a1_3, a1_4, a1_5⟩ : S55) [.int .i64 a1_0, .int .i64 a1_1, .int .i64 a1_2, .int .i64 a1_3, .int .i64 a1_4, .int .i64 a1_5] (fun k_ => k_ ≠ gb565) (fun _ => False) rfl rfl ?aP (fun _ hk => hk.elim) ?aF ?aO ?aB ?aS ?aL ?_; (case aP => exact k55_mkM _ _ _ (⟨a1_0, a1_1, a1_2, a1_3, a1_4, a1_5⟩ : S55)); (case aB => exact sqh); (case aF => exact (fun k_ hk => Kd.freshB (bo BK565) k_ hk)); (case aO => exact (sqq HO_6.out)); (case aS => exact (below_size sqh)); (case aL => have := LMc87.out; omega); intro v601 w95 ho hb hg hat; rw [← Ny600.out] at ho; replace BK565 := As_.mk (blk_grown (bo BK565) hg (Kd.R_away HO_6.out (fun _ hk => hk))); replace HB := As_.mk (hb); have HO602 := As_.mk (ho); clear HO_6; clear ho hb hg hat; obtain ⟨Ao96, co96, eo96⟩ := Kd.R_slice HO602.out; subst eo96))
          go_ret2
          exact ⟨_, sqe, by (with_reducible repeat (first | apply Kd.R_alloc | apply Kd.R_drewN | apply Kd.R_drew)); exact Kd.R_mono HO602.out (fun _ hk => trivial), sqh⟩
        ·rw [if_neg c87] at H
         exact absurd H (by simp)

end Go.Proofs.Ytabpgiebhgkfhaa.XFnIssuers
